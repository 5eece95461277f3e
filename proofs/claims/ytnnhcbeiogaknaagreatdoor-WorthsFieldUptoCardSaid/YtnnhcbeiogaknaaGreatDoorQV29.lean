/- Package polys: Coefs. -/
import Derived.Test.YtnnhcbeiogaknaaGreatDoorQV28
set_option linter.unusedSimpArgs false
set_option linter.unusedVariables false
set_option maxRecDepth 100000
set_option maxHeartbeats 4000000
section
namespace Go.Proofs.YtnnhcbeiogaknaaGreatDoor
open Go.RowKit
structure Gl (wo wr:World) (x N Lb:Nat) (pre:Δ) (mb:Nat→Option Nat):Prop where
 cell:∀k,k≤N→wr.cell? ⟨Lb,k,none⟩=some (.map (mb k))∧wr.frozen? ⟨Lb,k,none⟩=false
 non:∀k,k≤N→mb k=none→Du pre x k=[]
 one:∀k b,k≤N→mb k=some b→Lb<b∧Dd wr b pre.length (b+1) (Dj (Du pre x k))
 inj:∀k k' b,k≤N→k'≤N→mb k=some b→mb k'=some b→k=k'
 lb:wo.heap.size≤Lb
 below:Below wo.heap.size wo wr
theorem bK.notDig {w:World} {k:Nat} (h:bK w k):F5 w k:=fun cur e=>by obtain ⟨es,n,hm⟩:=h;rw [hm] at e;cases e
theorem F5.of {w w':World} {k:Nat} (h:F5 w k) (e:w'.heap[k]? = w.heap[k]?):F5 w' k:=fun cur=>by rw [e];exact h cur
theorem F5.keep {w w':World} {k:Nat} (h:F5 w k) (hk:k<w.heap.size) (hb:Below w.heap.size w w'):F5 w' k:=h.of (hb.block k hk)
theorem Dd.otherD {w w':World} {b n B k:Nat} {f:Nat→Option PC} (h:Dd w b n B f) (hg:w.grownBy w' (some k)) (hm:F5 w k) (hne:b≠k):Dd w' b n B f:=by
 obtain ⟨D,o,h1,h2⟩:=h.ex;refine ⟨D,o,h1.kept hg qJ,?_⟩;intro a b c d kl ha hb hc hd hk;obtain ⟨h1,h2⟩:=h2 a b c d kl ha hb hc hd hk;refine ⟨h1,fun x hx=>?_⟩;obtain ⟨h3,v,hv,hf⟩:=h2 x hx;refine ⟨h3,v,hv,?_⟩;obtain ⟨g1,a1,n1,c1,g2,a2,n2,c2,rfl,hfr,hl⟩:=hf;have p1:=hl.top.ap_not hm;have p2:=hl.low.ap_not hm;exact ⟨g1,a1,n1,c1,g2,a2,n2,c2,rfl,hfr.ap (p1.few hfr.top.rd.cap) (p2.few hfr.low.rd.cap) hg,hl.top.off_ap p1 hg,hl.low.off_ap p2 hg,hl.ap,hl.m1,hl.m2⟩
theorem Gl.other {wo w w':World} {x N Lb k:Nat} {pre:Δ} {mb:Nat→Option Nat} (h:Gl wo w x N Lb pre mb) (hg:w.grownBy w' (some k)) (hm:F5 w k) (hL:k≠Lb) (hk:∀j b,j≤N→mb j=some b→b≠k) (hb:Below wo.heap.size wo w'):Gl wo w' x N Lb pre mb :=
 ⟨fun j hj=>⟨hg.cell (h.cell j hj).1 qJ,(hg.frozen_far _ (Aa _ _ (h.cell j hj).1) qJ).trans (h.cell j hj).2⟩,h.non,fun j b hj hm'=>⟨(h.one j b hj hm').1,(h.one j b hj hm').2.otherD hg hm (hk j b hj hm')⟩,h.inj,h.lb,hb⟩
def Ab5 (wo wc:World) (x N Lb T:Nat) (s:Tm) (pre:Δ) (k:Nat):Prop :=
 ∃mb b,Gl wo wc x N Lb pre mb∧mb k=some b∧Dh wc T s∧F5 wc T∧Lb<wc.heap.size∧T<wc.heap.size∧∀j b,j≤N→mb j=some b→b≠T
theorem Dh.far {w:World} {b:Nat} {t:Tm} (h:Dh w b t) (p:Addr) (u:Value) (hp:p.block≠b):Dh (w.setCell p u) b t :=
 ⟨(A6 _ _ _ _ hp).trans h.c0,(A6 _ _ _ _ hp).trans h.c1,(A6 _ _ _ _ hp).trans h.c2,(A6 _ _ _ _ hp).trans h.c3,(A6 _ _ _ _ hp).trans h.c4,(A6 _ _ _ _ hp).trans h.c5,(A6 _ _ _ _ hp).trans h.c6,(A6 _ _ _ _ hp).trans h.c7,
  by rw [World.frozen?_setCell];exact h.f0,by rw [World.frozen?_setCell];exact h.f1,by rw [World.frozen?_setCell];exact h.f2,by rw [World.frozen?_setCell];exact h.f3,by rw [World.frozen?_setCell];exact h.f4,by rw [World.frozen?_setCell];exact h.f5,by rw [World.frozen?_setCell];exact h.f6,by rw [World.frozen?_setCell];exact h.f7⟩
theorem Gl.keep {wo wr w':World} {x N Lb:Nat} {pre:Δ} {mb:Nat→Option Nat} (h:Gl wo wr x N Lb pre mb) (hb:Below wr.heap.size wr w'):Gl wo w' x N Lb pre mb :=
 ⟨fun k hk=>⟨Bc hb (h.cell k hk).1,(hb.frozen (Aa _ _ (h.cell k hk).1)).trans (h.cell k hk).2⟩,h.non,fun k b hk hm=>⟨(h.one k b hk hm).1,(h.one k b hk hm).2.keep hb⟩,h.inj,h.lb,h.below.trans (hb.mono h.below.size)⟩
theorem Gl.make {wo w:World} {x N Lb k:Nat} {pre:Δ} {mb:Nat→Option Nat} (h:Gl wo w x N Lb pre mb) (hk:k≤N) (hn:mb k=none) (hL:Lb<w.heap.size) :
  Gl wo ((w.setCell ⟨Lb,k,none⟩ (.map (some w.heap.size))).alloc (.map #[] 0)) x N Lb pre (fun j=>if j=k then some w.heap.size else mb j):=by
 have hg:w.grownBy ((w.setCell ⟨Lb,k,none⟩ (.map (some w.heap.size))).alloc (.map #[] 0)) (some Lb) :=
  (Bf _ (A7 _ _)).trans (Bt ((Ac _ _).alloc (Ad _) _) |>.but _)
 have hlt:∀j b,j≤N→mb j=some b→b<w.heap.size:=fun j b hj hb=>by
  obtain ⟨es,m,hm⟩:=(h.one j b hj hb).2.isMap;exact (Ar.1 hm).1
 refine ⟨fun j hj=>?_,fun j hj hm=>?_,fun j b hj hm=>?_,fun j j' b hj hj' hm hm'=>?_,h.lb,(h.below.setCell (p:=⟨Lb,k,none⟩) h.lb _).alloc (by simpa using h.below.size) _⟩
 ·have hc:=h.cell j hj;have hck:=h.cell k hk;by_cases e:j=k
  ·subst e;simp [hc.1,hc.2,hL,go_sem]
  ·have e':¬k=j:=fun h=>e h.symm
   simp [hc.1,hc.2,hL,e,e',go_sem]
 ·by_cases e:j=k
  ·rw [if_pos e] at hm;cases hm
  ·rw [if_neg e] at hm;exact h.non j hj hm
 ·by_cases e:j=k
  ·rw [if_pos e] at hm;cases hm
   subst e;refine ⟨hL,?_⟩;rw [h.non j hj hn];have hmade:=World.ownsMap_made (w.setCell ⟨Lb,j,none⟩ (.map (some w.heap.size))) Tryz.prog 76 RH;rw [Am] at hmade;exact ⟨.map [],id,hmade.mono (Ba _),Fs.empty _ _ _⟩
  ·rw [if_neg e] at hm;have hs:=h.one j b hj hm;exact ⟨hs.1,hs.2.grown hg (fun k hk=>by cases hk;omega) qJ⟩
 ·by_cases e:j=k<;>by_cases e':j'=k
  ·rw [e,e']
  ·rw [if_pos e] at hm;rw [if_neg e'] at hm';cases hm;exact absurd (hlt j' _ hj' hm') qA
  ·rw [if_neg e] at hm;rw [if_pos e'] at hm';cases hm';exact absurd (hlt j _ hj hm) qA
  ·rw [if_neg e] at hm;rw [if_neg e'] at hm';exact h.inj j j' b hj hj' hm hm'
theorem Sd (l:Δ) (x:Nat):∀t∈l,(exN t.1 x:Int)≤C6 l x:=by
 have h:∀(l:Δ) (a:Int),a≤l.foldl (fun n t=>max n (exN t.1 x:Int)) a∧∀t∈l,(exN t.1 x:Int)≤l.foldl (fun n t=>max n (exN t.1 x:Int)) a:=by
  intro l
  induction l with
  | nil=>intro a;exact ⟨Int.le_refl _,fun t ht=>by simp at ht⟩
  | cons u l ih =>
   intro a;have h1:=ih (max a (exN u.1 x:Int));refine ⟨Int.le_trans (Int.le_max_left _ _) h1.1,fun t ht=>?_⟩;rcases List.mem_cons.1 ht with rfl|ht
   ·exact Int.le_trans (Int.le_max_right _ _) h1.1
   ·exact h1.2 t ht
 exact (h l (-1)).2
theorem zM (w0 w:World) (b n B:Nat) (f:Nat→Option PC) (h:Dd w0 b n B f) (h00:Below w0.heap.size w0 w) (hbB:b<B) (hBw:B≤w0.heap.size) (hn:n<1000000000)
  (g1:Bool) (a1:Γ) (n1 c1:Nat) (g2:Bool) (a2:Γ) (n2 c2:Nat) (x:PC) (hx:Bj w g1 a1 n1 c1 x.1 g2 a2 n2 c2 x.2) (k1:Bg w0.heap.size w a1 c1) (k2:Bg w0.heap.size w a2 c2) (hap:Ap2 a1 c1 a2 c2)
  (m1 m2 m3:Nat) (h1:m1<65536) (h2:m2<65536) (h3:m3<65536) (hxK:By 1000000000 x) (hyK:∀y,f (Cg 0 m1 m2 m3)=some y→By 1000000000 y) :
  Θ 43 #[.map (some b),frV g1 a1 n1 c1 g2 a2 n2 c2,(.agg #[.int .u16 0,.int .u16 m1,.int .u16 m2,.int .u16 m3]:Value)] w fun e w'=>e=.returned (.tuple #[])∧Dd w' b (n+1) B (Gx f (Cg 0 m1 m2 m3,x))∧w.grownBy w' (some b) :=
 fD w0 w b n B f h h00 hbB hBw hn g1 a1 n1 c1 g2 a2 n2 c2 x hx k1 k2 hap 0 m1 m2 m3 qA h1 h2 h3 hxK hyK
theorem Ta (pre:Δ) (x:PT) (y k:Nat):Du (pre++[x]) y k=Du pre y k++(if exN x.1 y=k then [(x.1-k*unN y,x.2)] else []):=by
 unfold Du;rw [List.filter_append,List.map_append];by_cases h:exN x.1 y=k
 ·simp [h]
 ·simp [h]
theorem Dd.moreN {w:World} {b n m B:Nat} {f:Nat→Option PC} (h:Dd w b n B f) (hm:n≤m):Dd w b m B f:=by
 obtain ⟨D,o,h1,h2⟩:=h.ex;exact ⟨D,o,h1.mono hm,h2⟩
theorem Sz {l:Δ} (hl:PW l) (y k:Nat):∀t∈Du l y k,CW t.2:=fun t ht=>by
 obtain ⟨x,hx,rfl⟩:=List.mem_map.1 ht;exact (hl.good x (List.mem_filter.1 hx).1).1
theorem U6 {l pre:Δ} (hl:Sm l) (hp:∀t∈pre,t∈l) (hlen:pre.length≤40) (y k j:Nat):wtk (Du pre y k) j≤400000:=by
 have h1:=Kf (Du pre y k) j;have h2:wt (Du pre y k)≤(Du pre y k).length*(100+1):=Xv fun t ht=>by
  obtain ⟨x,hx,rfl⟩:=List.mem_map.1 ht;exact hl.few x (hp x (List.mem_filter.1 hx).1)
 have h3:(Du pre y k).length≤pre.length:=by
  unfold Du;rw [List.length_map];exact List.length_filter_le _ _
 omega
theorem Gl.next {wo w w':World} {y N Lb b k:Nat} {pre:Δ} {x:PT} {mb:Nat→Option Nat} (h:Gl wo w y N Lb pre mb) (hg:w.grownBy w' (some b)) (hk:k≤N) (hm:mb k=some b) (hx:exN x.1 y=k)
  (hM:Dd w' b (pre.length+1) (b+1) (Gx (Dj (Du pre y k)) (x.1-k*unN y,x.2))) (hb:Below wo.heap.size wo w'):Gl wo w' y N Lb (pre++[x]) mb:=by
 have hbm:=(h.one k b hk hm).2.isMap;have hLb:=(h.one k b hk hm).1;refine ⟨fun j hj=>⟨hg.cell (h.cell j hj).1 qJ,(hg.frozen_far _ (Aa _ _ (h.cell j hj).1) qJ).trans (h.cell j hj).2⟩,fun j hj hn=>?_,fun j b' hj hm'=>?_,h.inj,h.lb,hb⟩
 ·have e:¬exN x.1 y=j:=fun e=>by rw [←e,hx,hm] at hn;cases hn
  rw [Ta,if_neg e,List.append_nil];exact h.non j hj hn
 ·refine ⟨(h.one j b' hj hm').1,?_⟩;rw [A9,List.length_singleton,Ta];by_cases e:j=k
  ·subst e;rw [hm] at hm'
   cases hm'
   rw [if_pos hx,Lz];exact hM
  ·rw [if_neg qA,List.append_nil];exact ((h.one j b' hj hm').2.otherD hg hbm.notDig (fun e'=>e (h.inj j k b hj hk (e'▸hm') hm))).moreN qA
theorem Pi {l:Δ} (hl:PW l) (k:Nat):PW (Du l 0 k):=by
 have hu:unN 0=281474976710656:=by decide
 have hex:∀t∈l,exN t.1 0=k→k*unN 0≤t.1:=fun t ht e=>by
  have h1:=hl.key t ht;have e0:(65536:Nat) ^ 3=281474976710656:=by decide
  unfold exN at e;simp only [Nat.sub_zero,e0] at e;rw [hu];omega
 refine ⟨?_,fun t ht=>?_,fun t ht=>?_⟩
 ·unfold Ct Du;rw [List.pairwise_map];refine List.Pairwise.imp_of_mem ?_ (List.Pairwise.filter _ hl.falls);intro a b ha hb h;obtain ⟨hb1,hb2⟩:=List.mem_filter.1 hb;have:=hex b hb1 (by simpa using hb2);have h:b.1<a.1:=h;show b.1-k*unN 0<a.1-k*unN 0;omega
 ·obtain ⟨x,hx,rfl⟩:=List.mem_map.1 ht;exact hl.good x (List.mem_filter.1 hx).1
 ·obtain ⟨x,hx,rfl⟩:=List.mem_map.1 ht;have:=hl.key x (List.mem_filter.1 hx).1;show x.1-k*unN 0<_;omega
theorem Gl.sum {wo w:World} {N Lb:Nat} {l:Δ} {mb:Nat→Option Nat} (h:Gl wo w 0 N Lb l mb) (hl:Sm l) (k:Nat) (hk:k≤N) :
  Θ 44 #[.map (mb k)] w fun e w'=>∃a n c,e=.returned (.slice a n c)∧Bd w' wo.heap.size a n c (Du l 0 k)∧Bm w' wo.heap.size a n c∧Below w.heap.size w w':=by
 cases hm:mb k with
 | none =>
  refine (wP w).mono ?_;rintro e w' ⟨rfl,hb⟩;rw [h.non k hk hm];exact ⟨none,0,0,rfl,Bd.nil _ _,Bm.nil _ _,hb⟩
 | some b =>
  obtain ⟨hLb,hM⟩:=h.one k b hk hm;have hbw:b<w.heap.size:=by obtain ⟨es,m,hm⟩:=hM.isMap;exact (Ar.1 hm).1
  have hll:=hl.len;have hlb:=h.lb;refine (fX w b l.length (b+1) _ hM qA qA ?_).mono ?_
  ·intro j x hx;refine ⟨?_,?_⟩
   ·obtain ⟨t,ht,e⟩:=Sn hx;rw [←e];exact (Pi hl.pw k).key t ht
   ·exact By.mono (Ie (Sz hl.pw 0 k) hx).2 (Ah (U6 hl (fun t ht=>ht) hll 0 k _) qA)
  ·rintro e w' ⟨a,n,c,r,rfl,hr,hro,hfr,hmr,hb⟩;obtain rfl:=Lp (Sz hl.pw 0 k) hfr hmr;rw [Fx (Pi hl.pw k)] at hr;exact ⟨a,n,c,rfl,hr.mono qA,hro.mono qA,hb⟩
theorem xH (wo:World) (B n c:Nat) (a:Γ) (l:Δ) (h:Bd wo B a n c l) (hl:Sm l) (hne:l≠[]) (N:Nat) (hN:C6 l 0=(N:Int)) (hN1:N≤1000) :
  Θ 55 #[.slice a n c,.int .i64 0] wo (dW wo wo.heap.size ((List.range (N+1)).map (Du l 0))):=by
 have hnl:=h.len;have hn40:=hl.len;have HN:=Ae hN;clear hN;go_enter Tryz.func55,Tryz.ntmps55;go_wp2_with fail;refine (Il wo B a n c l h hl.pw (hl.few.mono qA) qA 0 qA).mono ?_;rintro e w1 ⟨rfl,hb1⟩;rw [HN.out];have hmk:=fun W=>Qa 171 85 (.map none) Tryz.underlying171 iF qI rfl (N+1) qA W
 simp only [Int.natCast_add,Int.natCast_one] at hmk;have hN0:(0:Int)≤(N:Int):=by omega
 have hN2:¬((N:Int)<0):=by omega
 obtain ⟨p,hp,hpx⟩:=h.ts;have hok:=h.pok hl.pw hp hpx;have hpf:=h.few hl.few hp hpx;have P1:=Ae hok;have P3:Hid (∀k,k<n→(p k).n1≤1000000∧(p k).n2≤1000000):=Ae fun k hk=>by have:=hpf k hk;omega
 have P5:=Ae hpx;have hnf:=hp.few;clear hok hpf hpx;go_wp2_with fail;refine Be ?_;intro w2 hw2;have b2:Below w1.heap.size w1 w2:=by rw [hw2];go_grown
 have HB2:=hb1.trans (b2.mono hb1.size);have R0:Gl wo w2 0 N w1.heap.size [] (fun _=>none):=by
  refine ⟨fun k hk=>?_,fun k hk _=>rfl,fun k b hk h=>(by cases h),fun k k' b _ _ h=>(by cases h),hb1.size,HB2⟩;rw [hw2];have e1:(Array.replicate (N+1) (Value.map none))[k]? = some (Value.map none):=by rw [Array.getElem?_replicate,if_pos qA]
  constructor
  ·simp [go_sem,e1]
  ·simp [go_sem]
 have hl1:w1.heap.size<w2.heap.size:=by rw [hw2];simp
 generalize w1.heap.size=Lb at *;clear hw2 hmk b2;refine (Lk w2 a n c p (hp.keep HB2) P3.out true ⟨fun _=>rfl,fun _=>P1.out⟩).mono ?_;rintro e w3 ⟨rfl,hb3⟩;go_wp2_with fail;have R3:Gl wo w3 0 N Lb [] (fun _=>none):=R0.keep hb3;have L3:Lb<w3.heap.size:=by have:=hb3.size;omega
 have HDG:=Ae (Sd l 0);go_loopg [24] n (fun gq v24 wr=>∃i:Nat,i≤n∧gq=n-i∧v24=.int .i64 i∧Lb<wr.heap.size∧∃mb,Gl wo wr 0 N Lb (l.take i) mb)
 case atStart=>exact ⟨0,by omega,by omega,rfl,L3,_,R3⟩
 case round =>
  obtain ⟨i,hi,hgq,rfl,hLb,mb,hR⟩:=hrel;have HGQ:=Ae hgq;clear hgq;clear R0 R3 L3 HB2 hb3;by_cases hlt:i<n
  ·obtain ⟨gb,go,rfl,_⟩:=hp.cell.resolve_left qA;have hil:i<l.length:=by rw [hnl];exact hlt
   obtain ⟨x,hx⟩:∃x,l[i]? = some x:=⟨_,Ai hil⟩;have hm:=A8 hx;have hat:=(hp.keep hR.below).at hlt;have hrt:=hp.tm i hlt;have hti:=(P5.out i x hx).1;have hqt:=P3.out i hlt;have hgx:=hl.pw.good x hm;have hkx:=hl.few x hm;have hex:=(Ec hrt.s1 hrt.s2 hrt.s3 hrt.s0);rw [hti.key] at hex;have hle:(p i).m0≤N:=by have:=HDG.out x hm;rw [HN.out,hex.1] at this;omega
   have HT:=Ae (show l.take (i+1)=l.take i++[x] by rw [List.take_add_one,hx];rfl);generalize hs:p i=s at *;obtain ⟨e0,e1,e2,e3,e4,e5,e6,e7⟩:=hat;obtain ⟨w,rfl⟩:∃w:World,w=wr:=⟨_,rfl⟩;have hc0:=(hR.cell s.m0 hle).1;have hcf:=(hR.cell s.m0 hle).2;clear hil hx hs;have hin:(s.m0:Int)<(N:Int)+1:=by omega
   have him:(0:Int)≤(s.m0:Int):=by omega
   have T0:=Dh.new w s;go_upto_region 9 with fail
   refine Cc ?_;intro wA hwA;have bA:Below w.heap.size w wA:=by rw [hwA];go_grown
   have TA:Dh wA w.heap.size s:=by rw [hwA];exact T0
   have DA:F5 wA w.heap.size:=fun cur e=>by rw [hwA,heap_alloc_new] at e;simp only [Option.some.injEq,Obj.cells.injEq] at e;exact absurd e.2.1 qI
   have MA:∀j b,j≤N→mb j=some b→b≠w.heap.size:=fun j b hj hb e=>by
    obtain ⟨es,m,hm⟩:=(hR.one j b hj hb).2.isMap;have:=(Ar.1 hm).1;omega
   have RA:=hR.keep bA;have hLA:Lb<wA.heap.size:=by have:=bA.size;omega
   have hTA:=TA.lt;have hLT:Lb<w.heap.size:=hLb;have hoT:wo.heap.size≤w.heap.size:=hR.below.size;generalize w.heap.size=T at *;clear hwA T0 hR bA hc0 hcf e0 e1 e2 e3 e4 e5 e6 e7 hLb;go_cut [36] (fun v wc=>v=.bool (mb s.m0).isNone∧wA=wc)
   case first =>
    have hc0:=(RA.cell s.m0 hle).1
    cases hmb:mb s.m0 with
    | none =>
     rw [hmb] at hc0;have heq:∀W:World,(binOp BinOp.eql 85 (.map none) (.map none)).run Tryz.prog W=.ok (.bool true) W:=fun _=>rfl
     go_wp2_with fail;go_meet
     case rel=>exact ⟨by rw [hmb];rfl,rfl⟩
    | some b =>
     rw [hmb] at hc0;have heq:∀W:World,(binOp BinOp.eql 85 (.map (some b)) (.map none)).run Tryz.prog W=.ok (.bool false) W:=fun _=>rfl
     go_wp2_with fail;go_meet
     case rel=>exact ⟨by rw [hmb];rfl,rfl⟩
   case rest =>
    obtain ⟨rfl,rfl⟩:=hcut;go_upto_if 36 with fail
    go_cut [] (fun wc=>Ab5 wo wc 0 N Lb T s (l.take i) s.m0)
    case first =>
     cases hmb:mb s.m0 with
     | none =>
      have hc0:=(RA.cell s.m0 hle).1;have hcf:=(RA.cell s.m0 hle).2;have hmm:=@run_makeMap Tryz.prog;go_wp2_with fail;go_meet
      case rel=>exact ⟨_,wA.heap.size,RA.make hle hmb hLA,by simp,(TA.far _ _ (show Lb≠T by omega)).keep (Below.alloc (Ac _ _) (Ad _) _),F5.keep (w:=wA.setCell ⟨Lb,s.m0,none⟩ (.map (some wA.heap.size))) (DA.of (Below.heap_setCell _ _ _ _ (by show T≠Lb;omega))) (by simpa using hTA) (Below.alloc (Ac _ _) (Ad _) _),by simp;omega,by simp;omega,fun j b hj hb=>by
       by_cases e:j=s.m0
       ·rw [if_pos e] at hb;cases hb;omega
       ·rw [if_neg e] at hb;exact MA j b hj hb⟩
     | some b =>
      go_wp2_with fail;go_meet
      case rel=>exact ⟨mb,b,RA,hmb,TA,DA,hLA,hTA,MA⟩
    case rest =>
     obtain ⟨mb',b,RC,hmb,TC,DC,hLC,hTC,MC⟩:=hcut;clear RA TA DA hLA hTA MA;have hc:=(RC.cell s.m0 hle).1;rw [hmb] at hc;have TCk:=TC;obtain ⟨t0,t1,t2,t3,t4,t5,t6,t7,-,-,-,-,f4,-,-,-⟩:=TC;go_upto_region 12 with fail
     refine Cc ?_;intro wB hwB;have hgB:wc.grownBy wB (some T):=by rw [hwB];exact Bf _ (A7 _ _)
     have hTo:wo.heap.size≤T:=hoT;have hBB:Below wo.heap.size wo wB:=by rw [hwB];exact RC.below.setCell (p:=⟨T,4,none⟩) hTo _
     have RB:=RC.other hgB DC qA MC hBB;have cL:=(RB.cell s.m0 hle).1;rw [hmb] at cL;have x0:wB.cell? ⟨T,0,none⟩=some (.bool s.g1):=by rw [hwB];simp [*,go_sem]
     have x1:wB.cell? ⟨T,1,none⟩=some (.slice s.a1 s.n1 s.c1):=by rw [hwB];simp [*,go_sem]
     have x2:wB.cell? ⟨T,2,none⟩=some (.bool s.g2):=by rw [hwB];simp [*,go_sem]
     have x3:wB.cell? ⟨T,3,none⟩=some (.slice s.a2 s.n2 s.c2):=by rw [hwB];simp [*,go_sem]
     have x4:wB.cell? ⟨T,4,none⟩=some (.int .u16 0):=by rw [hwB];simp [*,go_sem]
     have x5:wB.cell? ⟨T,5,none⟩=some (.int .u16 s.m1):=by rw [hwB];simp [*,go_sem]
     have x6:wB.cell? ⟨T,6,none⟩=some (.int .u16 s.m2):=by rw [hwB];simp [*,go_sem]
     have x7:wB.cell? ⟨T,7,none⟩=some (.int .u16 s.m3):=by rw [hwB];simp [*,go_sem]
     have hMb:=(RB.one s.m0 b hle hmb);have hbB:b<wB.heap.size:=by obtain ⟨es,m,hm⟩:=hMb.2.isMap;exact (Ar.1 hm).1
     have hbT:=MC s.m0 b hle hmb;have hfr:=(hti.frac hrt hgx.1).keep hBB;have hpl:(l.take i).length≤40:=by rw [List.length_take];omega
     have HYK:=Ae (show ∀z,Dj (Du (l.take i) 0 s.m0) (Cg 0 s.m1 s.m2 s.m3)=some z→By 1000000000 z from fun z hz=>By.mono (Ie (fun t ht=>Sz ⟨List.Pairwise.sublist (List.take_sublist _ _) hl.pw.falls,fun t ht=>hl.pw.good t (List.mem_of_mem_take ht),fun t ht=>hl.pw.key t (List.mem_of_mem_take ht)⟩ 0 s.m0 t ht) hz).2 (Ah (U6 hl (fun t ht=>List.mem_of_mem_take ht) hpl 0 s.m0 _) qA));have HFX:=Ae (By.mono (rT.1 hl.few x hm) (show 100≤1000000000 by omega));have HMO:=Ae (Jh hgx.1);clear hwB RC TCk t0 t1 t2 t3 t4 t5 t6 t7 f4 hc DC hgB;have hMB:=hMb.2;have hLbb:=hMb.1;go_region_held3 (fun W=>W.cell? ⟨Lb,s.m0,none⟩=some (.map (some b))∧W.cell? ⟨T,0,none⟩=some (.bool s.g1)∧W.cell? ⟨T,1,none⟩=some (.slice s.a1 s.n1 s.c1)∧W.cell? ⟨T,2,none⟩=some (.bool s.g2)∧W.cell? ⟨T,3,none⟩=some (.slice s.a2 s.n2 s.c2)∧W.cell? ⟨T,4,none⟩=some (.int .u16 0)∧W.cell? ⟨T,5,none⟩=some (.int .u16 s.m1)∧W.cell? ⟨T,6,none⟩=some (.int .u16 s.m2)∧W.cell? ⟨T,7,none⟩=some (.int .u16 s.m3)) (first|((try dsimp only);(repeat' apply Ay);all_goals (first|(with_reducible assumption)|(go_keep;done)|(simp [*,go_sem];done)))) (first
      | (go_at_call 10;(with_reducible refine (Fh _ 1 qA qA).mono ?_);rintro e w7 ⟨g7,a7,n7,c7,g8,a8,n8,c8,rfl,hone,hf7,hf8,hap7,hb⟩;have hb7:Below wB.heap.size wB w7:=(by first|exact hb|exact Al qF (hb.mono qB));have z7:=hb7.size;(replace cL:=Bc hb7 cL;replace x0:=Bc hb7 x0;replace x1:=Bc hb7 x1;replace x2:=Bc hb7 x2;replace x3:=Bc hb7 x3;replace x4:=Bc hb7 x4;replace x5:=Bc hb7 x5;replace x6:=Bc hb7 x6;replace x7:=Bc hb7 x7);have q7:=Co hone.top qI;have q8:=Co hone.low qI;have fr7:=hfr.keep hb7)
      | (go_at_call 39;(with_reducible refine (I3 _ _ _ _ _ _ _ _ _ _ _ (fr7.keep qF) _ _ _ _ _ _ _ _ _ _ (hone.keep qF) qA qA qA qA).mono ?_);rintro e w8 ⟨gm1,am1,nm1,cm1,gm2,am2,nm2,cm2,rfl,hmul0,hfm1,hfm2,hap,hb⟩;have hmul:Bj w8 gm1 am1 nm1 cm1 (Ca x.2 (1,1)).1 gm2 am2 nm2 cm2 (Ca x.2 (1,1)).2:=hmul0;have hb8:Below w7.heap.size w7 w8:=(by first|exact hb|exact Al qF (hb.mono qB));have z8:=hb8.size;have km1:Bg wB.heap.size w8 am1 cm1:=hfm1.mono qR;have km2:Bg wB.heap.size w8 am2 cm2:=hfm2.mono qR;(replace cL:=Bc hb8 cL;replace x0:=Bc hb8 x0;replace x1:=Bc hb8 x1;replace x2:=Bc hb8 x2;replace x3:=Bc hb8 x3;replace x4:=Bc hb8 x4;replace x5:=Bc hb8 x5;replace x6:=Bc hb8 x6;replace x7:=Bc hb8 x7);rw [HMO.out] at hmul)
      | (go_at_call 43;(with_reducible refine (zM wB w8 b _ (b+1) _ hMB (hb7.trans (hb8.mono hb7.size)) (Ag _) qA qA gm1 am1 nm1 cm1 gm2 am2 nm2 cm2 x.2 hmul km1 km2 hap s.m1 s.m2 s.m3 hrt.s1 hrt.s2 hrt.s3 HFX.out HYK.out).mono ?_);rintro e w9 ⟨rfl,hM9,hg9⟩;replace cL:=hg9.cell cL qJ;replace x0:=hg9.cell x0 qJ;replace x1:=hg9.cell x1 qJ;replace x2:=hg9.cell x2 qJ;replace x3:=hg9.cell x3 qJ;replace x4:=hg9.cell x4 qJ;replace x5:=hg9.cell x5 qJ;replace x6:=hg9.cell x6 qJ;replace x7:=hg9.cell x7 qJ))
     have b8:=hb7.trans (hb8.mono hb7.size);have H8:=hBB.trans (b8.mono hBB.size);have HB9:Below wo.heap.size wo w9:=Below.grown H8 hg9 (by have:=H8.size;omega) (fun j hj=>by cases hj;have:=RB.lb;omega);have hky:Cg 0 s.m1 s.m2 s.m3=x.1-s.m0*unN 0:=by
      rw [←hti.key];unfold Cg unN;omega
     rw [hky] at hM9;have R9:=(RB.keep b8).next hg9 hle hmb hex.1 hM9 HB9;have hL9:Lb<w9.heap.size:=by have:=hg9.size;have:=b8.size;omega
     rw [←HT.out] at R9;clear hM9 hg9 cL x0 x1 x2 x3 x4 x5 x6 x7 RB hMB hMb H8 b8 hmul hmul0 hone;go_wp2_with fail;go_roundg (n-(i+1))
     case rel=>exact ⟨i+1,by omega,rfl,by go_num,hL9,mb',R9⟩
     case measure=>have:=HGQ.out;omega
  ·obtain rfl:i=n:=by omega
   rw [As qA] at hR;go_wp2_with fail;clear hp;obtain ⟨i0,hi,hz0,hz1',hz2'⟩:=info_parts Jb;obtain ⟨wq,rfl⟩:∃wq:World,wq=wr:=⟨_,rfl⟩;go_loopg [10,58] (N+1) (fun gq2 v10 v58 wr2=>∃j:Nat,j≤N+1∧gq2=N+1-j∧v58=.int .i64 j∧Gg wr2 wq.heap.size wo.heap.size v10 ((List.range j).map (Du l 0))∧Below wq.heap.size wq wr2)
   case atStart=>exact ⟨0,by omega,by omega,rfl,Gg.nil _ _ _,Ac _ _⟩
   case round =>
    obtain ⟨j,hj,hgq2,rfl,hrow,HBq⟩:=hrel;have HGQ2:=Ae hgq2;clear hgq2;have hszq:=HBq.size;have hoq:=hR.below.size;by_cases hlt:j<N+1
    ·have RR:=hR.keep HBq;have hc:=(RR.cell j qA).1;have hS:=RR.sum hl j qA;have HT2:=Ae (show (List.range (j+1)).map (Du l 0)=(List.range j).map (Du l 0)++[Du l 0 j] by rw [List.range_succ,List.map_append];rfl);obtain ⟨xs,hown,hxs⟩:=hrow.ex;have hjl:((List.range j).map (Du l 0)).length=j:=by simp
     rw [hjl] at hown;have HXS:=Ae hxs;have HOW:=Ae hown;have HR:=Ae hR;clear hxs hrow RR hR;have him:(0:Int)≤(j:Int):=by omega
     have hin:(j:Int)<(N:Int)+1:=by omega
     generalize mb j=mj at *;go_wp2_with (first|(go_at_call 44;refine hS.mono ?_;rintro e w6 ⟨a6,n6,c6,rfl,hp6,ho6,hb6⟩;have hz6:=hb6.size)|(at_builtin;refine wpList_append_own _ rfl _ _ 97 rfl wq.heap.size 25 i0 (.slice none 0 0) 1 24 Tryz.underlying97 hi hz0 hz1' hz2' rfl qI _ j xs rfl (Bo (Bo HOW.out hb6) qF) ⟨w6.heap.size,0,none⟩ 1 1 [.slice a6 n6 c6] rfl rfl (cell_one_new _ _ _) (by simp [Value.oneCell']) qO qA qB ?_;intro v7 w7 hown7 hgrow7 _));have hge:=Hd HOW.out;have HB6:Below wq.heap.size wq w6:=HBq.trans (hb6.mono hszq);have HB7:Below wq.heap.size wq w7:=(HB6.alloc HB6.size _).grown hgrow7 qJ (fun k hk=>by have:=hge k hk;omega);have HAl:Below w6.heap.size w6 (w6.alloc (.cells #[.slice a6 n6 c6] 25)):=Below.alloc (Ac _ _) (Ad _) _;have HRow:=Gg.next (v:=u10) (v':=v7) (l:=Du l 0 j) (L:=(List.range j).map (Du l 0)) (by rw [hjl];exact Bo (Bo HOW.out hb6) HAl) (fun i' l' hl'=>by
      obtain ⟨a9,n9,c9,e9,hp9,ho9⟩:=HXS.out i' l' hl';exact ⟨a9,n9,c9,e9,(hp9.keep hb6).keep HAl,(ho9.keep hb6).keep HAl⟩) (hp6.keep HAl) (ho6.keep HAl) (by rw [hjl];exact hown7) hgrow7
     rw [←HT2.out] at HRow;clear hown7 hgrow7 hp6 ho6;go_roundg (N+1-(j+1))
     case rel=>exact ⟨j+1,by omega,rfl,by go_num,HRow,HB7⟩
     case measure=>have:=HGQ2.out;omega
    ·obtain rfl:j=N+1:=by omega
     have hx:¬(((N+1:Nat):Int)<(N:Int)+1):=by omega
     obtain ⟨xs,hown,hxs⟩:=hrow.ex;have hlb:=hR.lb;have hlq:wo.heap.size≤wq.heap.size:=hoq;have HF:=Ae (show dW wo wo.heap.size ((List.range (N+1)).map (Du l 0)) (.returned u10) wr from ⟨_,rfl,⟨xs,Kd hown hlq,hxs⟩,hR.below.trans (HBq.mono hlq)⟩);clear hown hxs hrow;go_wp2_with fail;have HF:=HF.out;rw [List.range_succ,List.map_append] at HF;go_ret;exact HF
end Go.Proofs.YtnnhcbeiogaknaaGreatDoor
end
