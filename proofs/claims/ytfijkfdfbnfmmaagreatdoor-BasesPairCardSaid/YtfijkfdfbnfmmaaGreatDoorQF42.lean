/- reckonerlaw01's twins again: each list in a block of its own. -/
import Derived.Test.YtfijkfdfbnfmmaaGreatDoorQF41
set_option linter.unusedSimpArgs false
set_option linter.unusedVariables false
set_option maxRecDepth 100000
set_option maxHeartbeats 4000000
section
namespace Go.Proofs.YtfijkfdfbnfmmaaGreatDoor
open Go.RowKit Proofs.Tryz
variable (w:World) (g:Bool) (X:Nat) (ga:Γ) {B k B0 n c:Nat} {o:Nat→Nat} {w':World} {a1 a2 a:Γ}
def oV (w:World) (n:Nat) (d:Ξ) (e:Ending) (w':World):Prop :=
 ∃a c,e=.returned (.slice a n c)∧RdL w' a (n+1) c (d++[77])∧K0 w a∧Bc w w' a c∧xp w w'
theorem aF (a:Γ) (n c:Nat) (d:Ξ) (hd:RdL w a n c d) (hn:n<35184372088832) :
  Θ 213 #[.slice a n c] w (oV w n d):=by
 obtain ⟨i0,hi,dw,ed,en⟩:=info_parts Dl;have CV:=hd.len;go_enter func213,ntmps213;go_wp2_with (refine wpList_make_own _ rfl _ _ 49 rfl w 129 i0 (.int .u32 0) 1 underlying49 hi dw ed .i64 .i64 _ (n+1) rfl rfl qB (by rw [en];omega) qN (Ad _) ?_;intro w1 du dn);have HB:xp w w1:=(Ac _ _).grown dn (Ad _) (fun k h=>by cases h);clear dn;go_loopw [3,4] (fun v3 v4 wr=>∃k:Nat,k≤n∧v4=M k∧v3=.slice (E w) k (n+1)∧wr.ownsRow w 129 1 (.slice (E w) k (n+1)) k (Cg (d.take k))∧xp w wr) (fun _ v4 _=>n-(intOf v4).toNat)
 case atStart=>exact ⟨0,Ba _,rfl,rfl,by simpa [Cg] using du,HB⟩
 case round =>
  obtain ⟨k,hk,rfl,rfl,ah,HB⟩:=hrel;have qu:=HB.size;clear du;by_cases bj:k<n
  ·obtain ⟨b,o,rfl,_⟩:=hd.cell.resolve_left qB;have e0:=(hd.keep HB).at bj;go_wp2_with (at_builtin;refine wpList_append_fits _ rfl _ _ 49 rfl w 129 i0 1 underlying49 hi ed w k (n+1) (Cg (d.take k)) rfl (ah.alloc _) (J wr 0) 1 1 [.int .u32 (lim d k)] rfl rfl (cell_one_new _ _ _) (by simp [Value.oneCell']) qB ?_;intro w2 cv gu);go_roundw
   case rel =>
    refine ⟨k+1,qB,by go_num,rfl,?_,?_⟩
    ·rw [lS d k qB];exact cv
    ·exact (HB.alloc qB _).grown gu qL (fun j h=>by cases h;exact Ad _)
   case measure=>simp [intOf];omega
  ·have vv:n≤k:=qB;obtain rfl:k=n:=qB;have ji:wr.ownsRow w 129 1 (.slice (E w) k (k+1)) k (Cg d):=by
    have:=ah;rwa [As qB] at this
   clear ah;go_wp2_with (at_builtin;refine wpList_append_fits _ rfl _ _ 49 rfl w 129 i0 1 underlying49 hi ed w k (k+1) (Cg d) rfl (ji.alloc _) (J wr 0) 1 1 [.int .u32 77] rfl rfl (cell_one_new _ _ _) (by simp [Value.oneCell']) qB ?_;intro w2 cv gu);go_ret;refine ⟨_,_,rfl,Da (base:=w.heap.size) ?_ qB (Q4 hd.small (gI 77 qB)),(fun x hx=>by cases hx;exact Ad _),Bc.of_owns cv,?_⟩
   ·rw [Cv];exact cv
   ·exact (HB.alloc qB _).grown gu qL (fun j h=>by cases h;exact Ad _)
def Zo (w:World) (g:Bool) (n:Nat) (d:Ξ) (e:Ending) (w':World):Prop :=
 ∃a c,e=.returned (.agg #[.bool g,.slice a n c])∧RdL w' a (n+1) c (d++[77])∧K0 w a∧Bc w w' a c∧xp w w'
theorem Wn (a:Γ) (n c:Nat) (d:Ξ) (hd:RdL w a n c d) (hn:n<35184372088832) :
  Θ 157 #[.agg #[.bool g,.slice a n c]] w (Zo w g n d):=by
 have HB:=Ac w w;go_enter func157,ntmps157;go_wp2;go_region_held3 (fun W=>Z W w 0 (.bool g)∧Z W w 1 (.slice a n c)) (first|go_keep|(simp [go_sem, *];done)|(simp [go_sem,World.cell?_alloc_past, *];done)) (first|(go_at_call 213;refine (aF _ _ _ _ d (hd.keep qD) hn).mono ?_;rintro e w' ⟨a',c',rfl,hr,hna,eh,hb⟩;obtain ⟨hc,hf⟩:=Bg hb;have hz:=hb.size;replace HB:=zP w hb));go_wp2_with fail;refine bodyPost_ret (v:=.agg #[.bool g,.slice a' n c']) (by simp [results,results157,go_sem,hc]) rfl ?_;have q1:Bc (w+1+1) w' a' c':=eh.mono qA;refine ⟨a',c',rfl,?_,hna.mono qA,?_,qD⟩
 ·exact (hr.setNew _ _ (hna.mono qA)).setNew _ _ (hna.mono qA)
 ·exact ((q1.setNew _ _ qH).setNew _ _ qH).mono qB
def Yq (w:World) (g:Bool) (n:Nat) (d:Ξ) (g':Bool) (n':Nat) (d':Ξ) (e:Ending) (w':World):Prop :=
 ∃a c a' c',e=.returned (.agg #[.bool g,.slice a n c,.bool g',.slice a' n' c'])∧RdL w' a (n+1) c (d++[77])∧RdL w' a' (n'+1) c' (d'++[77])∧K0 w a∧K0 w a'∧Bc w w' a c∧Bc w w' a' c'∧Ap2 a c a' c'∧xp w w'
theorem eP (a:Γ) (n c:Nat) (d:Ξ) (g':Bool) (a':Γ) (n' c':Nat) (d':Ξ) (hd:RdL w a n c d) (hn:n<35184372088832) (ik:RdL w a' n' c' d') (rk:n'<35184372088832) :
  Θ 87 #[.agg #[.bool g,.slice a n c,.bool g',.slice a' n' c']] w (Yq w g n d g' n' d'):=by
 have HB:=Ac w w;go_enter func87,ntmps87;go_wp2;go_region_held3 (fun W=>Z W w 0 (.bool g)∧Z W w 1 (.slice a n c)∧Z W w 2 (.bool g')∧Z W w 3 (.slice a' n' c')) (exact qK) (first
  | (go_at_call 157;(with_reducible refine (Wn _ g a n c d (hd.keep qD) hn).mono ?_);rintro e w1 ⟨a1,c1,rfl,lg,MX,lh,hb⟩;obtain ⟨hc,hf⟩:=Bg hb;have hz:=hb.size;(try simp only [Aj,Ak] at hz);replace HB:=zP w hb;obtain ⟨aw,bh,ei,ej⟩:=xe hc w g a n c g' a' n' c';obtain ⟨bn,bo,im,s1_3⟩:=xf hc (w+1);obtain ⟨dp,dt,jz,kh⟩:=xg hf (w+1))
  | (go_at_call 157;(with_reducible refine (Wn _ g' a' n' c' d' (ik.keep qD) rk).mono ?_);rintro e w1 ⟨a2,c2,rfl,lf,yt,j6,hb⟩;obtain ⟨hc,hf⟩:=Bg hb;have hz:=hb.size;(try simp only [Aj,Ak] at hz);replace HB:=zP w hb;obtain ⟨aw,bh,ei,ej⟩:=xe hc w g a n c g' a' n' c';obtain ⟨bn,bo,im,s1_3⟩:=xf hc (w+1);obtain ⟨dp,dt,jz,kh⟩:=xg hf (w+1)))
 go_wp2_with fail;refine bodyPost_ret (v:=.agg #[.bool g,.slice a1 n c1,.bool g',.slice a2 n' c2]) (by simp [results,results87,go_sem,bn,bo,im,s1_3]) rfl ?_;have q1:K0 (w.heap.size+2) a1:=MX.mono qA;have q2:K0 (w.heap.size+2) a2:=yt.mono qB;have ap:Ap2 a1 c1 a2 c2:=Xp lh (j6.mono qA);have k1:Bc (w+1+1) w1 a1 c1:=(lh.keep hb).mono qA;have k2:Bc (w+1+1) w1 a2 c2:=j6.mono qB;refine ⟨a1,c1,a2,c2,rfl,?_,?_,MX.mono qA,yt.mono qB,?_,?_,ap,qD⟩
 ·exact ((((lg.keep hb).setNew _ _ q1).setNew _ _ q1).setNew _ _ q1).setNew _ _ q1
 ·exact (((lf.setNew _ _ q2).setNew _ _ q2).setNew _ _ q2).setNew _ _ q2
 ·exact ((((k1.setNew _ _ qH).setNew _ _ qH).setNew _ _ qH).setNew _ _ qH).mono qB
 ·exact ((((k2.setNew _ _ qH).setNew _ _ qH).setNew _ _ qH).setNew _ _ qH).mono qB
def eF (w:World) (t:Tm) (e:Ending) (w':World):Prop:=∃s:Tm,e=.returned s.val∧Gh w' w t s∧Bc w w' s.a1 s.c1∧Bc w w' s.a2 s.c2∧Ap2 s.a1 s.c1 s.a2 s.c2∧xp w w'
theorem fQ (t:Tm) (ht:Dg w t) (hn:t.n1<35184372088832) (rk:t.n2<35184372088832) :
  Θ 18 #[t.val] w (eF w t):=by
 have HB:=Ac w w;have hd:=ht.top;have ik:=ht.low;go_enter func18,ntmps18;go_wp2;go_region_held3 (fun W=>Z W w 0 (.bool t.g1)∧Z W w 1 (.slice t.a1 t.n1 t.c1)∧Z W w 2 (.bool t.g2)∧Z W w 3 (.slice t.a2 t.n2 t.c2)∧Z W w 4 (U t.m0)∧Z W w 5 (U t.m1)∧Z W w 6 (U t.m2)∧Z W w 7 (U t.m3)) (exact qK) (first
  | (go_at_call 87;(with_reducible refine (eP _ t.g1 t.a1 t.n1 t.c1 t.d1 t.g2 t.a2 t.n2 t.c2 t.d2 (hd.keep qD) hn (ik.keep qD) rk).mono ?_);rintro e w1 ⟨a1,c1,a2,c2,rfl,lg,lf,MX,yt,lh,j6,gw,hb⟩;obtain ⟨hc,hf⟩:=Bg hb;have hz:=hb.size;(try simp only [Aj,Ak] at hz);replace HB:=zP w hb;obtain ⟨aw,bh,ei,ej⟩:=xe hc w t.g1 t.a1 t.n1 t.c1 t.g2 t.a2 t.n2 t.c2;have CE:=zE hc (w) 4 (U t.m0);have CF:=zE hc (w) 5 (U t.m1);have CG:=zE hc (w) 6 (U t.m2);have CH:=zE hc (w) 7 (U t.m3);obtain ⟨bn,bo,im,s1_3⟩:=xf hc (w+1);have adi:=zE hc (w+1) 4 (U 0);have adj:=zE hc (w+1) 5 (U 0);have adk:=zE hc (w+1) 6 (U 0);have adl:=zE hc (w+1) 7 (U 0);obtain ⟨dp,dt,jz,kh⟩:=xg hf (w+1);have ams:=zF hf (w+1) 4;have amt:=zF hf (w+1) 5;have amu:=zF hf (w+1) 6;have amv:=zF hf (w+1) 7))
 go_wp2_with fail;refine bodyPost_ret (v:=.agg #[.bool t.g1,.slice a1 t.n1 c1,.bool t.g2,.slice a2 t.n2 c2,U t.m0,U t.m1,U t.m2,U t.m3]) (by simp [results,results18,go_sem,bn,bo,im,s1_3,adi,adj,adk,adl]) rfl ?_;have q1:K0 (w.heap.size+2) a1:=MX.mono qA;have q2:K0 (w.heap.size+2) a2:=yt.mono qA;have k1:Bc (w+1+1) w1 a1 c1:=lh.mono qA;have k2:Bc (w+1+1) w1 a2 c2:=j6.mono qA;refine ⟨{ t with a1:=a1,c1:=c1,a2:=a2,c2:=c2 },rfl,⟨⟨rfl,rfl,rfl,rfl,rfl,rfl,rfl,rfl,rfl,rfl⟩,?_,?_,MX.mono qA,yt.mono qA⟩,?_,?_,gw,qD⟩
 ·exact (((((((lg.setNew _ _ q1).setNew _ _ q1).setNew _ _ q1).setNew _ _ q1).setNew _ _ q1).setNew _ _ q1).setNew _ _ q1).setNew _ _ q1
 ·exact (((((((lf.setNew _ _ q2).setNew _ _ q2).setNew _ _ q2).setNew _ _ q2).setNew _ _ q2).setNew _ _ q2).setNew _ _ q2).setNew _ _ q2
 ·exact ((((((((k1.setNew _ _ qH).setNew _ _ qH).setNew _ _ qH).setNew _ _ qH).setNew _ _ qH).setNew _ _ qH).setNew _ _ qH).setNew _ _ qH).mono qB
 ·exact ((((((((k2.setNew _ _ qH).setNew _ _ qH).setNew _ _ qH).setNew _ _ qH).setNew _ _ qH).setNew _ _ qH).setNew _ _ qH).setNew _ _ qH).mono qB
abbrev iC (w:World) (B:Nat) (o:Nat→Nat) (k:Nat) (s:Tm):Prop:=Je w B o k s.a1 s.c1 s.a2 s.c2
theorem Je.keepB {w:World} {c1:Nat} {c2:Nat} (h:Je w B o k a1 c1 a2 c2) (hb:xp w w'):Je w' B o k a1 c1 a2 c2 :=
 ⟨h.top.keep hb,h.low.keep hb,h.ap,h.m1,h.m2⟩
def kL (w:World) (n:Nat) (p:Nat→Tm) (e:Ending) (w':World):Prop:=∃a c s,e=.returned (.slice a n c)∧Jt w' w a n c p s∧(∃m xs,w'.ownsRow w 58 8 (.slice a m c) m xs)∧(∃o:Nat→Nat,∀j,j<n→iC w' w o j (s j))∧xp w w'
theorem Td (a:Γ) (n c:Nat) (p:Nat→Tm) (hp:RdP w a n c p) (hn:n≤1000000) (pg:Aa9 n p) :
  Θ 6 #[.slice a n c] w (kL w n p):=by
 obtain ⟨i0,hi,dw,ed,en⟩:=info_parts Ls;go_enter func6,ntmps6;go_wp2_with (refine wpList_make_own _ rfl _ _ 23 rfl w 58 i0 (.agg #[.bool false,.slice none 0 0,.bool false,.slice none 0 0,U 0,U 0,U 0,U 0]) 8 underlying23 hi dw ed .i64 .i64 _ (n+1) rfl rfl qB (by rw [en];omega) qN (Ad _) ?_;intro w1 du dn);have HB:xp w w1:=(Ac _ _).grown dn (Ad _) (fun k h=>by cases h);have tu:=(du.lt w rfl).2;clear dn;go_loopw [3,4] (fun v3 v4 wr=>∃(k:Nat) (s:Nat→Tm),k≤n∧v4=M k∧v3=.slice (E w) k (n+1)∧wr.ownsRow w 58 8 (.slice (E w) k (n+1)) k (Cs s k)∧(∀j,j<k→Gh wr (w+1) (p j) (s j))∧Hid (∃o:Nat→Nat,∀j,j<k→iC wr (w+1) o j (s j))∧xp w wr) (fun _ v4 _=>n-(intOf v4).toNat)
 case atStart=>exact ⟨0,fun _=>Yb,Ba _,rfl,rfl,by simpa [Cs] using du,fun j hj=>absurd hj (Nat.not_lt_zero _),Ae ⟨fun _=>0,fun j hj=>absurd hj (Nat.not_lt_zero _)⟩,HB⟩
 case round =>
  obtain ⟨k,s,hk,rfl,rfl,ah,fh,HO,HB⟩:=hrel;have qu:=HB.size;have a5a:=(ah.lt w rfl).2;clear du tu;have HA:=Ae fh;clear fh;by_cases bj:k<n
  ·obtain ⟨b,o,rfl,_⟩:=hp.cell.resolve_left qB;obtain ⟨e0,e1,e2,e3,e4,e5,e6,e7⟩:=(hp.keep HB).at bj;have sx:=((hp.keep HB).tm k bj);have hfk:=pg k bj;go_wp2_with fail;refine (fQ _ (p k) sx hfk.1 hfk.2).mono ?_;rintro e w2 ⟨tk,rfl,IQ,ln,nk,gw,hb⟩;have bp:=hb.size;have aqc:Hid (∃o:Nat→Nat,∀j,j<k+1→iC w2 (w+1) o j (if j=k then tk else s j)):=Ae (by
    obtain ⟨o,ho⟩:=HO.out;refine ⟨fun g=>if g<wr.heap.size then o g else k,fun j hj=>?_⟩;by_cases MO:j=k
    ·subst MO;rw [if_pos rfl];exact ⟨ln.mono qB,nk.mono qB,gw,Mk.new ln,Mk.new nk⟩
    ·rw [if_neg MO];have h:=ho j qB;exact ⟨h.top.keep hb,h.low.keep hb,h.ap,h.m1.old h.top (Ad _),h.m2.old h.low (Ad _)⟩)
   clear HO ln nk gw;have cv:=Bf ah hb;clear ah e0 e1 e2 e3 e4 e5 e6 e7;go_wp2_with (at_builtin;refine wpList_append_fits _ rfl _ _ 23 rfl w 58 i0 8 underlying23 hi ed w k (n+1) (Cs s k) rfl (cv.alloc _) (J w2 0) 1 1 tk.cells rfl rfl (Dp w2 tk.cells 58) (by simp [Tm.cells,Value.oneCell']) qB ?_;intro w3 dh er);go_roundw
   case rel =>
    refine ⟨k+1,fun j=>if j=k then tk else s j,qB,by go_num,rfl,?_,fun j hj=>?_,Ae (by obtain ⟨o,ho⟩:=aqc.out;exact ⟨o,fun j hj=>Je.butR (Je.keepB (ho j hj) ((Ac _ _).alloc (Ad _) _)) er (fun k hk=>by cases hk;omega)⟩),?_⟩
    ·exact qEg
    ·show Gh w3 (w+1) (p j) (if j=k then tk else s j);by_cases MO:j=k
     ·subst MO;rw [if_pos rfl];exact ((IQ.mono qB).keep ((Ac _ _).alloc (Ad _) _)).grown er
     ·rw [if_neg MO];exact (((HA.out j qB).keep hb).keep ((Ac _ _).alloc (Ad _) _)).grown er
    ·exact ((HB.trans (hb.mono qu)).alloc qB _).grown er qL (fun j h=>by cases h;exact Ad _)
   case measure=>simp [intOf];omega
  ·have vv:n≤k:=qB;obtain rfl:k=n:=qB;go_wp2_with (at_builtin;refine wpList_append_fits _ rfl _ _ 23 rfl w 58 i0 8 underlying23 hi ed w k (k+1) (Cs s k) rfl (ah.alloc _) (J wr 0) 1 1 Yb.cells rfl rfl (Dp wr Yb.cells 58) (by simp [Tm.cells,Yb,Value.oneCell']) qB ?_;intro w3 dh er);go_ret;refine ⟨_,_,s,rfl,⟨w.heap.size,rfl,Ad _,qB,qB,fun j hj=>?_,?_⟩,⟨_,_,dh⟩,by obtain ⟨o,ho⟩:=HO.out;exact ⟨o,fun j hj=>Je.mono (Je.butR (Je.keepB (ho j hj) ((Ac _ _).alloc (Ad _) _)) er (fun k hk=>by cases hk;omega)) qB⟩,?_⟩
   ·have jk:w3.ownsRow w 58 8 (.slice (E w) (k+1) (k+1)) (k+1) (Cs (fun j=>if j=k then Yb else s j) (k+1)):=qEg;have h1:=Ig jk (j:=j) qB;rw [if_neg qB] at h1;exact ⟨h1,(((HA.out j hj).keep ((Ac _ _).alloc (Ad _) _)).grown er).mono qB⟩
   ·have jk:w3.ownsRow w 58 8 (.slice (E w) (k+1) (k+1)) (k+1) (Cs (fun j=>if j=k then Yb else s j) (k+1)):=qEg;have h1:=Ig jk (j:=k) qB;rw [if_pos rfl] at h1;exact h1
   ·exact (HB.alloc qB _).grown er qL (fun j h=>by cases h;exact Ad _)
theorem Dn.lower {w:World} {e:TypeId} {s B1:Nat} {h:Hl} (hh:Dn w e s B0 B h) (hB:B1≤B0):Dn w e s B1 B h :=
 ⟨hh.le,hh.few,hh.top,hh.lies.imp id fun⟨h1,h2,h3⟩=>⟨h1,Ah hB h2,h3⟩⟩
theorem rG {w:World}:Ck (w.alloc (.cells #[M 0,.slice none 0 0,.slice none 0 0,.slice none 0 0,.slice none 0 0,.slice none 0 0,.slice none 0 0,.slice none 0 0,.slice none 0 0,.slice none 0 0,.slice none 0 0,.slice none 0 0,.slice none 0 0] 45)) B0 w 0 [] []:=by
 refine ⟨qJ,fun j hj=>?_,fun j=>qJ,⟨.slice none 0 0,qJ,World.ownsRow_nil _ _ _ _⟩,⟨.slice none 0 0,qJ,World.ownsRow_nil _ _ _ _⟩,qH,qH,qH,qH⟩;have:j=1∨j=3∨j=4∨j=5∨j=7∨j=8∨j=9∨j=10∨j=11∨j=12:=qB;rcases this with rfl|rfl|rfl|rfl|rfl|rfl|rfl|rfl|rfl|rfl<;>simp [go_sem]
theorem Fd {p:Nat→Tm} {N:Nat} (hN:N+2*k<1000000000):∀q∈Cu p N k,q.2=.slice none 0 0∧q.1.m<1000000000:=fun q hq=>by
 obtain ⟨i,hi,hq⟩:=Hz hq;rcases hq with rfl|rfl
 ·exact ⟨rfl,by show N+2*i+1<_;omega⟩
 ·exact ⟨rfl,by show N+2*i+2<_;omega⟩
theorem RdL.ahead {w:World} {d:Ξ} (h:RdL w a (n+1) c (d++[77])):RdL w a n c d:=by
 have hl:d.length=n:=by have:=h.len;simp at this;omega
 refine ⟨hl,by have:=h.cap;omega,by have:=h.few;omega,h.top,fun i=>?_,?_⟩
 ·by_cases hi:i<d.length
  ·have:=h.small i;rwa [Hw _ _ _ hi] at this
  ·rw [Mm qB];omega
 ·obtain ⟨b,o,ha,hc⟩:=h.cell.resolve_left qB;refine .inr ⟨b,o,ha,fun i hi=>?_⟩;have:=hc i qB;rwa [Hw _ _ _ qB] at this
theorem Jt.rd {w:World} {p s:Nat→Tm} (h:Jt w B a n c p s) (hs:∀j,j<n→(p j).m0<65536∧(p j).m1<65536∧(p j).m2<65536∧(p j).m3<65536):RdP w a n c s:=by
 obtain ⟨b,rfl,hb,ri,hc,fh,hm⟩:=h;refine ⟨qB,qB,qB,fun j hj=>?_,.inr ⟨b,0,rfl,fun j hj=>(fh j hj).1⟩⟩;obtain ⟨_,ht⟩:=fh j hj;have hk:=hs j hj;exact ⟨ht.top.ahead,ht.low.ahead,by rw [ht.alike.m0];exact hk.1,by rw [ht.alike.m1];exact hk.2.1,by rw [ht.alike.m2];exact hk.2.2.1,by rw [ht.alike.m3];exact hk.2.2.2⟩
theorem Ot {s t:Tm} (h:Uk s t):s.mono=t.mono:=by
 unfold Tm.mono;rw [h.m0,h.m1,h.m2,h.m3]
theorem Z9 {p s:Nat→Tm} (h:∀j,j<n→Uk (s j) (p j)):POk s n↔POk p n:=by
 have key:∀j,j<n→(uJ s j↔uJ p j):=fun j hj=>by
  have h1:=h j hj;unfold uJ TOk;rw [h1.g1,h1.d1,h1.g2,h1.d2,Ot h1];constructor
  ·rintro ⟨a,b⟩;refine ⟨a,fun h0=>?_⟩;have:=b h0;rwa [Ot (h (j-1) qB)] at this
  ·rintro ⟨a,b⟩;refine ⟨a,fun h0=>?_⟩;rw [Ot (h (j-1) qB)];exact b h0
 exact ⟨fun H j hj=>(key j hj).1 (H j hj),fun H j hj=>(key j hj).2 (H j hj)⟩
theorem Jt.keep {w:World} {p s:Nat→Tm} (h:Jt w B a n c p s) (hb:xp w w'):Jt w' B a n c p s:=by
 obtain ⟨b,ha,hB,ri,hc,fh,hm⟩:=h;exact ⟨b,ha,hB,ri,hc,fun j hj=>⟨(fh j hj).1.keep hb,(fh j hj).2.keep hb⟩,hm.keep hb⟩
theorem Jt.mono {w:World} {B':Nat} {p s:Nat→Tm} (h:Jt w B a n c p s) (hB:B'≤B):Jt w B' a n c p s:=by
 obtain ⟨b,ha,hb,ri,hc,fh,hm⟩:=h;exact ⟨b,ha,Ah hB hb,ri,hc,fun j hj=>⟨(fh j hj).1,(fh j hj).2.mono hB⟩,hm⟩
theorem Jt.alike {w:World} {p s:Nat→Tm} (h:Jt w B a n c p s):∀j,j<n→Uk (s j) (p j):=by
 obtain ⟨b,_,_,_,_,fh,_⟩:=h;exact fun j hj=>(fh j hj).2.alike
theorem jJ {p s:Nat→Tm} (h:∀j,j<n→Uk (s j) (p j)):lst s n=lst p n:=by
 unfold lst;refine List.map_congr_left fun i hi=>?_
 have k:=h i (List.mem_range.1 hi);unfold tmX;rw [k.g1,k.d1,k.d2,k.m0,k.m1,k.m2,k.m3]
theorem gR {w:World} {p s:Nat→Tm} (h:Jt w B a n c p s):a=none→c=0:=by
 obtain ⟨b,rfl,_⟩:=h;exact fun e=>by cases e
theorem Rv {w:World} {m:Nat} {s:Nat→Tm} {xs:List Value} (hr:RdP w a n c s) (ah:w.ownsRow B0 58 8 (.slice a m c) m xs) (ho:∀j,j<n→iC w B0 o j (s j)) (pg:∀i,i<n→(s i).n1≤1000000∧(s i).n2≤1000000) (hn:n≤1000000) (hc:c≤maxLen) (hb:xp w w') (hB:w.heap.size≤B):Mg w' B0 B w a n c s:=by
 have gw:∀N k,k≤n→(Cu s N k).Pairwise Dq:=fun N k=>by
  induction k with
  | zero=>intro _;simp [Cu]
  | succ k ih =>
   intro hk;rw [Cu];have KB:=ho k qB;refine List.pairwise_append.2 ⟨ih qB,?_,fun q hq u hu=>?_⟩
   ·exact qDo
   ·obtain ⟨i,hi,hq⟩:=Hz hq;have RS:=ho i qB;have di:i≠k:=qB;exact qCf
 have vk:∀{a:Γ} {n c m:Nat},Bc B0 w a c→c≠0→B0≤(Fi a n c m).b∧(Fi a n c m).b<w.heap.size:=fun hf h0=>qEs
 have je:c=0∨∃b cur,a=some ⟨b,0,none⟩∧B0≤b∧w.heap[b]? = some (.cells cur 58 (0,0))∧c*8≤cur.size:=by
  rcases ah.2 with ⟨e,_⟩|⟨g,cap,cur,e,h1,h2,_,_,h3,_⟩
  ·cases e;exact .inl rfl
  ·cases e;exact .inr ⟨g,cur,rfl,h1,h2,qB⟩
 refine ⟨hr.keep hb,fun i m hi=>⟨Ku (hr.tm i hi).top (ho i hi).top (pg i hi).1 hb hB,Ku (hr.tm i hi).low (ho i hi).low (pg i hi).2 hb hB⟩,gw,fun m=>?_,fun N k q hq hk h0=>?_,fun h0=>?_⟩
 ·refine ⟨hr.cap,hn,hc,?_⟩;rcases je with h0|⟨b,cur,rfl,h2,h3,h4⟩
  ·exact .inl h0
  ·exact qEn
 ·obtain ⟨i,hi,hq⟩:=Hz hq;rcases hq with rfl|rfl
  ·exact vk (ho i qB).top h0
  ·exact vk (ho i qB).low h0
 ·rcases je with h1|⟨b,cur,rfl,h2,h3,h4⟩
  ·exact absurd h1 h0
  ·exact ⟨h2,(Ar.1 h3).1⟩
theorem Yy (W:World) (B0 B1 B2 B3 B:Nat) (h01:B0≤B1) (h12:B1≤B2) (h23:B2≤B3) (h3:B3≤B) (a1:Γ) (n1 c1:Nat) (a2:Γ) (n2 c2:Nat) (a3:Γ) (n3 c3:Nat) (p1 p2:Nat→Tm) (m1:n1≤1000000) (m2:n2≤1000000) (m3:n3≤1000000)
  (K1:∀W',Below B W W'→Mg W' B0 B B1 a1 n1 c1 p1) (K2:∀W',Below B W W'→Mg W' B1 B B2 a2 n2 c2 p2) (K3:∀W',Below B W W'→∃p3,Mg W' B2 B B3 a3 n3 c3 p3) (uf:Ck W B0 B 0 [] []) :
  Θ 11 #[.pointer (E B),.slice a1 n1 c1] W fun e W1=>e=.returned (.tuple #[])∧Eo B W W1∧Θ 11 #[.pointer (E B),.slice a2 n2 c2] W1 fun e W2=>e=.returned (.tuple #[])∧Eo B W1 W2∧Θ 11 #[.pointer (E B),.slice a3 n3 c3] W2 fun e W3=>e=.returned (.tuple #[])∧Eo B W2 W3∧Θ 12 #[.pointer (E B)] W3 fun e W4=>e=.returned (.bool true)∧Ec (fun g=>B0≤g) W3 W4:=by
 have q1:=K1 W (Ac _ _);refine (X9 W B0 B 0 [] [] uf a1 n1 c1 p1 q1.rd (fun i hi=>⟨(q1.hl i _ hi).1,(q1.hl i _ hi).2⟩) (fun k hk=>by simpa using q1.ap 0 k hk) (q1.row _) qH qB qH qH).mono ?_;rintro e W1 ⟨rfl,AF,jy⟩;refine ⟨rfl,jy,?_⟩;have q2:=K2 W1 jy.b;simp only [List.nil_append] at AF;refine (X9 W1 B0 B (0+2*n1+1) _ _ AF a2 n2 c2 p2 q2.rd (fun i hi=>⟨(q2.hl i _ hi).1.lower h01,(q2.hl i _ hi).2.lower h01⟩) (fun k hk=>?_) ((q2.row _).lower h01) (fun q hq=>?_) qB (by rw [Ex];omega) qH).mono ?_
 ·refine List.pairwise_append.2 ⟨q1.ap 0 n1 (Ad _),q2.ap _ k hk,fun q hq u hu h1 h2 e=>?_⟩;have e1:=q1.lo 0 n1 q hq (Ad _) h1;have e2:=q2.lo _ k u hu hk h2;omega
 ·simp only [Ao] at hq;subst hq;intro h1 h2 e;have e1:=q1.rlo h1;have e2:=q2.rlo h2;have e3:(Fi a1 n1 c1 0).b=(Fi a2 n2 c2 0).b:=e;omega
 ·rintro e W2 ⟨rfl,uv,l9⟩;refine ⟨rfl,l9,?_⟩;have b2:=jy.b.trans l9.b;obtain ⟨p3,q3⟩:=K3 W2 b2;have h02:B0≤B2:=Ah h01 h12;have IA:∀q∈Cu p1 0 n1++Cu p2 (0+2*n1+1) n2,q.1.c≠0→q.1.b<B2:=fun q hq h=>by
   rcases List.mem_append.1 hq with hq|hq
   ·have:=q1.lo 0 n1 q hq (Ad _) h;omega
   ·exact (q2.lo _ n2 q hq (Ad _) h).2
  refine (X9 W2 B0 B (0+2*n1+1+2*n2+1) _ _ uv a3 n3 c3 p3 q3.rd (fun i hi=>⟨(q3.hl i _ hi).1.lower h02,(q3.hl i _ hi).2.lower h02⟩) (fun k hk=>?_) ((q3.row _).lower h02) (fun q hq=>?_) qB (by rw [A8,Ex,Ex];omega) qH).mono ?_
  ·refine List.pairwise_append.2 ⟨List.pairwise_append.2 ⟨q1.ap 0 n1 (Ad _),q2.ap _ n2 (Ad _),fun q hq u hu h1 h2 e=>?_⟩,q3.ap _ k hk,fun q hq u hu h1 h2 e=>?_⟩
   ·have e1:=q1.lo 0 n1 q hq (Ad _) h1;have e2:=q2.lo _ n2 u hu (Ad _) h2;omega
   ·have e1:=IA q hq h1;have e2:=q3.lo _ k u hu hk h2;omega
  ·intro h1 h2 e;have e2:=q3.rlo h2;rcases List.mem_append.1 hq with hq|hq
   ·simp only [Ao] at hq;subst hq;have e1:=q1.rlo h1;have e3:(Fi a1 n1 c1 0).b=(Fi a3 n3 c3 0).b:=e;omega
   ·simp only [Ao] at hq;subst hq;have e1:=q2.rlo h1;have e3:(Fi a2 n2 c2 0).b=(Fi a3 n3 c3 0).b:=e;omega
  ·rintro e W3 ⟨rfl,OR,nw⟩;refine ⟨rfl,nw,?_⟩;refine uV W3 B0 B _ _ _ OR (fun q hq=>?_) (fun q hq=>?_) (fun q hq=>?_) (fun q hq=>?_) (by simp only [A8,Ex];omega) qH qB
   ·rcases List.mem_append.1 hq with hq|hq
    ·rcases List.mem_append.1 hq with hq|hq
     ·exact (Fd qB q hq).1
     ·exact (Fd qB q hq).1
    ·exact (Fd qB q hq).1
   ·simp only [List.mem_append,Ao] at hq;rcases hq with (rfl|rfl)|rfl<;>rfl
   ·rcases List.mem_append.1 hq with hq|hq
    ·rcases List.mem_append.1 hq with hq|hq
     ·exact (Fd qB q hq).2
     ·exact (Fd qB q hq).2
    ·exact (Fd qB q hq).2
   ·simp only [List.mem_append,Ao] at hq;rcases hq with (rfl|rfl)|rfl
    ·show 0+2*n1+1<_;omega
    ·show 0+2*n1+1+2*n2+1<_;omega
    ·show 0+2*n1+1+2*n2+1+2*n3+1<_;omega
theorem Vt (a:Γ) (n c:Nat) (hn:n≤35184372088832) :
  Θ 142 #[.agg #[.bool g,.slice a n c]] w (fun e w'=>e=.returned (M (1+(n:Int)))∧xp w w'):=by
 have HB:=Ac w w;have hl:∀W,Θ 195 #[.slice a n c] W (fun e w'=>e=.returned (M (n:Int))∧w'=W):=fun W=>by
  go_enter func195,ntmps195;go_wp2_with fail;go_ret;exact ⟨rfl,rfl⟩
 go_enter func142,ntmps142;go_wp2_with fail;refine (hl _).mono ?_;rintro e w1 ⟨rfl,rfl⟩;go_wp2_with fail;go_ret;exact ⟨rfl,qD⟩
theorem bX (g1:Bool) (a1:Γ) (n1 c1:Nat) (g2:Bool) (a2:Γ) (n2 c2:Nat) (h1:n1≤35184372088832) (h2:n2≤35184372088832) :
  Θ 74 #[.agg #[.bool g1,.slice a1 n1 c1,.bool g2,.slice a2 n2 c2]] w (fun e w'=>∃z:Int,e=.returned (M z)∧0≤z∧z≤140737488351232∧(z≤1048576→(n1:Int)≤z∧(n2:Int)≤z)∧xp w w'):=by
 have HB:=Ac w w;go_enter func74,ntmps74;go_wp2_with fail;refine Bt ?_;intro w0 cw;have b0:xp w w0:=by rw [cw];go_grown
 have x2:Z w0 w 2 (.bool g2):=by rw [cw];simp [go_sem]
 have x3:Z w0 w 3 (.slice a2 n2 c2):=by rw [cw];simp [go_sem]
 clear cw;refine (Vt _ g1 a1 n1 c1 h1).mono ?_;rintro e w1 ⟨rfl,br⟩
 (replace ⟨x2,x3⟩:=xk br x2 x3)
 have b1:=xo b0 br;by_cases hs:(1:Int)+(1+(n1:Int))≤1048576
 ·go_wp2_with fail;refine (Vt _ g2 a2 n2 c2 h2).mono ?_;rintro e w2 ⟨rfl,bp⟩;go_wp2_with fail;go_ret;exact ⟨_,rfl,qB,qB,fun _=>⟨qB,qB⟩,(xo b1 bp)⟩
 ·go_wp2_with fail;go_ret;exact ⟨_,rfl,qB,qB,fun _=>⟨qB,qB⟩,b1⟩
theorem fR (t:Tm) (h1:t.n1≤35184372088832) (h2:t.n2≤35184372088832) :
  Θ 13 #[.agg #[.bool t.g1,.slice t.a1 t.n1 t.c1,.bool t.g2,.slice t.a2 t.n2 t.c2,U t.m0,U t.m1,U t.m2,U t.m3]] w (fun e w'=>∃z:Int,e=.returned (M z)∧0≤z∧z≤140737488351300∧(z≤1048576→(t.n1:Int)≤z∧(t.n2:Int)≤z)∧xp w w'):=by
 have HB:=Ac w w;go_enter func13,ntmps13;go_wp2_with fail;refine Bt ?_;intro w0 cw;have b0:xp w w0:=by rw [cw];go_grown
 clear cw;refine (bX _ t.g1 t.a1 t.n1 t.c1 t.g2 t.a2 t.n2 t.c2 h1 h2).mono ?_;rintro e w1 ⟨z,rfl,z0,z1,z2,br⟩;have b1:=xo b0 br;have HZ:=Ae z2;clear z2;go_wp2_with fail;go_ret;exact ⟨_,rfl,qB,qB,fun hz=>by have:=HZ.out qB;omega,b1⟩
theorem Sw (a:Γ) (n c:Nat) (p:Nat→Tm) (hp:RdP w a n c p) (mh:∀k,k<n→(p k).n1≤35184372088832∧(p k).n2≤35184372088832) :
  Θ 4 #[.slice a n c] w (fun e w'=>∃z:Int,e=.returned (M z)∧(n:Int)≤z∧z≤281474976710656∧(z≤1048576→∀k,k<n→(n:Int)+(p k).n1≤z∧(n:Int)+(p k).n2≤z)∧xp w w'):=by
 have HB:=Ac w w;have hn:=hp.few;have HS:=Ae mh;clear mh;go_enter func4,ntmps4;go_wp2_with fail;go_loopw [3,4] (fun v3 v4 wr=>∃(i:Nat) (z:Int),i≤n∧v4=M i∧v3=M z∧(n:Int)≤z∧z≤281474976710656∧Hid (z≤1048576→∀k,k<i→(n:Int)+(p k).n1≤z∧(n:Int)+(p k).n2≤z)∧xp w wr) (fun _ v4 _=>n-(intOf v4).toNat)
 case atStart=>exact ⟨0,n,qB,rfl,rfl,qB,qB,Ae (fun _ k hk=>absurd hk qB),HB⟩
 case round =>
  obtain ⟨i,z,hi,rfl,rfl,dw,ed,en,dm⟩:=hrel;by_cases hm:z≤1048576
  ·by_cases bj:i<n
   ·obtain ⟨b,o,rfl,ij⟩:=hp.cell.resolve_left qB;have uy:=hp.keep dm;obtain ⟨e0,e1,e2,e3,e4,e5,e6,e7⟩:=uy.at bj;have hs:=HS.out i bj;have H2:=Ae en;have HP:=Ae hp;clear ij en uy hp HB;go_wp2_with fail;refine (fR _ (p i) hs.1 hs.2).mono ?_;rintro e w1 ⟨y,rfl,y0,y1,y2,br⟩;have HY:=Ae y2;clear y2;have b1:=xo dm br;go_wp2_with fail;go_roundw
    case rel =>
     refine ⟨i+1,z+y,qB,by go_num,rfl,qB,qB,Ae fun hle k hk=>?_,b1⟩;rcases Nat.lt_or_ge k i with h|h
     ·have:=H2.out.out hm k h;omega
     ·obtain rfl:k=i:=qB;have:=HY.out qB;omega
    case measure=>(first|(simp [intOf];omega)|(simp [intOf];done))
   ·obtain rfl:i=n:=qB;have H2:=Ae en;clear en HB;go_wp2_with fail;go_ret;exact ⟨z,rfl,dw,ed,H2.out.out,dm⟩
  ·have H2:=Ae en;clear en HB;by_cases bj:i<n
   ·go_wp2_with fail;go_ret;exact ⟨z,rfl,dw,ed,fun h=>absurd h qB,dm⟩
   ·obtain rfl:i=n:=qB;go_wp2_with fail;go_ret;exact ⟨z,rfl,dw,ed,fun h=>absurd h qB,dm⟩
theorem yW (G cp:Nat) (z0 z1 z2:PT×Δ) (hr:Gq w X X (.slice (E G) 3 cp) [z0.1::z0.2,z1.1::z1.2,z2.1::z2.2]) (s0:Sm (z0.1::z0.2)) (s1:Sm (z1.1::z1.2)) (s2:Sm (z2.1::z2.2)) (l10:Dd (exF z1.1.1) (exF z0.1.1)=-1) (l20:Dd (exF z2.1.1) (exF z0.1.1)=-1) (l21:Dd (exF z2.1.1) (exF z1.1.1)=-1)
  (W:World) (O LB:Nat) (hW:xp w W) (hO:Z W O 0 (.int .u8 0)) (hL:Z W LB 0 (.func (.func 147) #[] #[.pointer (E O)])) (gO:w.heap.size≤O) (gL:w.heap.size≤LB) :
  Θ 148 #[.slice (E G) 3 cp,.func (.func 149) #[] #[.pointer (E O),.pointer (E LB)]] W (fun e W'=>e=.returned (.tuple #[])∧SR W' X (E G) [z2,z1,z0]∧(∃row:Option Nat,W.grownBy W' row∧∀k,row=some k→X≤k∧k<w.heap.size)):=by
 obtain ⟨xs,ah,yd⟩:=hr.ex;obtain ⟨a0,n0,c0,e0,p0,o0⟩:=yd 0 _ rfl;obtain ⟨a1,n1,c1,e1,p1,o1⟩:=yd 1 _ rfl;obtain ⟨a2,n2,c2,e2,p2,o2⟩:=yd 2 _ rfl;rcases ah.2 with ⟨h,_⟩|⟨g,cap,cur,hv,hg,RC,hc,_,_,sx⟩
 ·cases h
 ·cases hv
  simp only [List.length_cons,List.length_nil] at hc sx;have jn:∀i u,i<3→xs[i]? = some u→cur[i]? = some u:=fun i u hi hu=>by
   rw [←sx,List.getElem?_take,if_pos qB] at hu;simpa using hu
  have hB:Blk w G cur 24:=RC;have SI:=hB.lt;have q0:=p0.keep hW;have q1:=p1.keep hW;have q2:=p2.keep hW;have r0:=o0.keep hW;have r1:=o1.keep hW;have r2:=o2.keep hW;have YN:=hB.keep hW;refine (lY W G cp qB cur YN a0 a1 a2 n0 c0 n1 c1 n2 c2 (jn 0 _ qB e0) (jn 1 _ qB e1) (jn 2 _ qB e2) 149 #[.pointer (E O),.pointer (E LB)] (Gn func149 qE rfl) (fun W' tq=>?_)).mono ?_
  ·have hO':=tq.cell hO (fun e=>by have e9:O=G:=Option.some.inj e;omega);have hL':=tq.cell hL (fun e=>by have e9:LB=G:=Option.some.inj e;omega);have t0:=(Gm q0 r0 YN qI qI tq).1;have t1:=(Gm q1 r1 YN qI qI tq).1;have t2:=(Gm q2 r2 YN qI qI tq).1;refine ⟨?_,?_,?_⟩
   ·have:=cC W' O LB hO' hL' X n1 c1 a1 z1.1 z1.2 t1 s1 X n0 c0 a0 z0.1 z0.2 t0 s0;rw [l10] at this;exact this
   ·have:=cC W' O LB hO' hL' X n2 c2 a2 z2.1 z2.2 t2 s2 X n0 c0 a0 z0.1 z0.2 t0 s0;rw [l20] at this;exact this
   ·have:=cC W' O LB hO' hL' X n2 c2 a2 z2.1 z2.2 t2 s2 X n1 c1 a1 z1.1 z1.2 t1 s1;rw [l21] at this;exact this
  ·rintro e W' ⟨rfl,tq,kj,hB',k0,k1,k2⟩;have t0:=Gm q0 r0 YN qI qI tq;have t1:=Gm q1 r1 YN qI qI tq;have t2:=Gm q2 r2 YN qI qI tq;refine ⟨rfl,.inr ⟨G,rfl,fun i z hz=>?_⟩,some G,tq,fun k hk=>by cases hk;exact ⟨hg,SI⟩⟩
   match i,hz with
   | 0,hz=>cases hz;exact ⟨a2,n2,c2,hB'.cell 0 _ k0,t2.1,t2.2⟩
   | 1,hz=>cases hz;exact ⟨a1,n1,c1,hB'.cell 1 _ k1,t1.1,t1.2⟩
   | 2,hz=>cases hz;exact ⟨a0,n0,c0,hB'.cell 2 _ k2,t0.1,t0.2⟩
   | n+3,hz=>simp at hz
theorem yJ (n cp:Nat) (gs:List (PT×Δ)) (hn:gs.length=n) (qv:n≤1) (hr:Gq w X X (.slice ga n cp) (gs.map fun z=>z.1::z.2))
  (W:World) (O LB:Nat) (hW:xp w W) :
  Θ 148 #[.slice ga n cp,.func (.func 149) #[] #[.pointer (E O),.pointer (E LB)]] W (fun e W'=>e=.returned (.tuple #[])∧SR W' X ga gs∧(∃row:Option Nat,W.grownBy W' row∧∀k,row=some k→X≤k∧k<w.heap.size)):=by
 refine (mD W ga n cp qv _).mono ?_;rintro e W' ⟨rfl,hb⟩;refine ⟨rfl,?_,none,Bl hb none,fun k hk=>by cases hk⟩;obtain ⟨xs,ah,yd⟩:=hr.ex;obtain ⟨u1,u2,u3,u4⟩:=Kf ah;rw [List.length_map] at u1 u2 u3 u4;rcases u4 with ⟨_,h0,_⟩|⟨G,rfl,_,hc⟩
 ·exact .inl (List.length_eq_zero_iff.1 h0)
 ·refine .inr ⟨G,rfl,fun i z hz=>?_⟩;obtain ⟨a,m,c,e1,e2,e3⟩:=yd i (z.1::z.2) (by rw [List.getElem?_map,hz];rfl);have bb:=xo hW hb;exact ⟨a,m,c,Bb bb (hc i _ e1),e2.keep bb,e3.keep bb⟩
def zP1:PT×Δ:=((Bv 2 0 0 0,(1,1)),bP1.tail)
def zP2:PT×Δ:=((Bv 1 0 0 0,(1,1)),bP2.tail)
def zM:PT×Δ:=((Bv 0 2 0 0,(1,1)),bM.tail)
def zR:PT×Δ:=((Bv 0 2 0 0,(2,1)),bR.tail)
def zQ2:PT×Δ:=((Bv 1 1 0 0,(1,1)),bQ2.tail)
theorem Aa8:apK zP1.1.1 zP2.1.1=false:=qI
theorem Abn:apK zP1.1.1 zM.1.1=true:=qI
theorem Abq:apK zP2.1.1 zM.1.1=true:=qI
theorem Abw:Dd (exF zP2.1.1) (exF zP1.1.1)=-1:=qI
theorem Abf:Dd (exF zM.1.1) (exF zP1.1.1)=-1:=qI
theorem Abe:Dd (exF zM.1.1) (exF zP2.1.1)=-1:=qI
theorem iU:[zM,zP2,zP1].foldl Ci []=[zM,zP2]:=by
 simp [Ci,show inM zP2.1.1 zM.1.1=false from qI,show inM zP1.1.1 zM.1.1=false from qI,show inM zP1.1.1 zP2.1.1=true from qI]
theorem jC:[zQ2].foldl Ci []=[zQ2]:=by simp [Ci]
theorem Uh:Sm (zP1.1::zP1.2):=Sm.of (by decide +kernel)
theorem Pw:Sm (zP2.1::zP2.2):=Sm.of (by decide +kernel)
theorem nE:Sm (zM.1::zM.2):=Sm.of (by decide +kernel)
theorem sm_R:Sm (zR.1::zR.2):=Sm.of (by decide +kernel)
theorem Ws:Sm (zQ2.1::zQ2.2):=Sm.of (by decide +kernel)
theorem Ab0:∀(j:Nat) (z:PT×Δ),([zM,zP2,zP1].foldl Ci [])[j]? = some z→∃f x l y q,Ii (([zM,zP2,zP1].foldl Ci []).take j++([zM,zP2,zP1].foldl Ci []).drop (j+1)) f (z.1::z.2) ((([zM,zP2,zP1].foldl Ci []).take j++([zM,zP2,zP1].foldl Ci []).drop (j+1)).map fun _=>[]) []=some (x::l)∧Sm (x::l)∧Fx 0 x l=y::q∧[zM,zP2][j]? = some (y,q):=by
 rw [iU];intro j z hz
 match j,hz with
 | 0,hz=>cases hz;exact ⟨10,_,_,_,_,Aaa,nE,wJ,rfl⟩
 | 1,hz=>cases hz;exact ⟨10,_,_,_,_,zX,Pw,iK,rfl⟩
 | n+2,hz=>simp at hz
theorem Ab1:∀(j:Nat) (z:PT×Δ),([zQ2].foldl Ci [])[j]? = some z→∃f x l y q,Ii (([zQ2].foldl Ci []).take j++([zQ2].foldl Ci []).drop (j+1)) f (z.1::z.2) ((([zQ2].foldl Ci []).take j++([zQ2].foldl Ci []).drop (j+1)).map fun _=>[]) []=some (x::l)∧Sm (x::l)∧Fx 0 x l=y::q∧[zQ2][j]? = some (y,q):=by
 rw [jC];intro j z hz
 match j,hz with
 | 0,hz=>cases hz;exact ⟨10,_,_,_,_,Aai,Ws,iI,rfl⟩
 | n+1,hz=>simp at hz
end Go.Proofs.YtfijkfdfbnfmmaaGreatDoor
end
