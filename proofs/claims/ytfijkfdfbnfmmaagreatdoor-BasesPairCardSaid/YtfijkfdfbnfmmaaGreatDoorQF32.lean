/- Package polys: Lead, by any order. -/
import Derived.Test.YtfijkfdfbnfmmaaGreatDoorQF31
set_option linter.unusedSimpArgs false
set_option linter.unusedVariables false
set_option maxRecDepth 100000
set_option maxHeartbeats 4000000
section
namespace Go.Proofs.YtfijkfdfbnfmmaaGreatDoor
open Go.RowKit Proofs.Tryz
variable (w:World) (B:Nat) (a:Γ) (wo:World) {l:Δ}
theorem Ok {f g f' g':Nat→Int} (hf:∀i,i<4→f i=f' i) (hg:∀i,i<4→g i=g' i):Dd f g=Dd f' g':=by
 unfold Dd;rw [hf 0 qB,hf 1 qB,hf 2 qB,hf 3 qB,hg 0 qB,hg 1 qB,hg 2 qB,hg 3 qB]
theorem fO {o:Nat} {f g f' g':Nat→Int} (hf:∀i,i<4→f i=f' i) (hg:∀i,i<4→g i=g' i):F7 o f g=F7 o f' g':=by
 have h1:Ia f=Ia f':=by unfold Ia;rw [hf 0 qB,hf 1 qB,hf 2 qB,hf 3 qB]
 have h2:Ia g=Ia g':=by unfold Ia;rw [hg 0 qB,hg 1 qB,hg 2 qB,hg 3 qB]
 have h3:=Ok hf hg;have h4:Rp f g=Rp f' g':=Ok (fun i hi=>hg (3-i) qB) (fun i hi=>hf (3-i) qB);unfold F7;rw [h1,h2,h3,h4]
def G8 (o:Nat) (p:Nat→Tm):Nat→Nat
 | 0=>0
 | i+1=>if 0<F7 o (p (i+1)).mono (p (G8 o p i)).mono then i+1 else G8 o p i
theorem Mz (o:Nat) (p:Nat→Tm):∀i,G8 o p i≤i
 | 0=>Ad _
 | i+1=>by
  rw [G8]
  split
  ·exact Ad _
  ·exact Nat.le_succ_of_le (Mz o p i)
theorem sG (o:Nat) (ho:o≤2) (b:Nat) (s t:Tm) (h0:Z w b 0 (.int .u8 o)) (hs:Dg w s) (ht:Dg w t) :
  Θ 93 #[s.val,t.val,.pointer (E b)] w (fun e w'=>e=.returned (M (F7 o s.mono t.mono))∧xp w w'):=by
 have bj:b<w.heap.size:=Aa _ _ h0;have HB:=Ac w w;have HI:=Ae (Ax hs ht);clear hs ht;go_enter func93,ntmps93;go_wp2_with fail;refine (vP _ o ho _ _ _ _ _ _ _ _ ⟨qB,by have:=HI.out.1.s0;omega⟩ ⟨qB,by have:=HI.out.1.s1;omega⟩ ⟨qB,by have:=HI.out.1.s2;omega⟩ ⟨qB,by have:=HI.out.1.s3;omega⟩ ⟨qB,by have:=HI.out.2.s0;omega⟩ ⟨qB,by have:=HI.out.2.s1;omega⟩ ⟨qB,by have:=HI.out.2.s2;omega⟩ ⟨qB,by have:=HI.out.2.s3;omega⟩).mono ?_;exact qDr
theorem eJ (a:Γ) (n c:Nat) (p:Nat→Tm) (hp:RdP wo a n c p) (o:Nat) (ho:o≤2) (h0:0<n) (b:Nat) (hbx:Z wo b 0 (.int .u8 o)) :
  Θ 92 #[.slice a n c,.func (.func 93) #[] #[.pointer (E b)]] wo (fun e w'=>e=.returned (p (G8 o p (n-1))).val∧xp wo w'):=by
 have HB:=Ac wo wo;have hnf:=hp.few;obtain ⟨gb,go,rfl,FQ⟩:=hp.cell.resolve_left qB;have qq:gb<wo.heap.size:=Aa _ _ (FQ 0 h0).e0;clear FQ;have jn:=hp.at h0;rw [Nat.zero_mul,Nat.add_zero] at jn;obtain ⟨e0,e1,e2,e3,e4,e5,e6,e7⟩:=jn;go_enter func92,ntmps92;go_wp2_with fail;go_loopw [6] (fun v6 wr=>∃i:Nat,1≤i∧i≤n∧v6=M i∧Dt wr wo tm0∧Dt wr (wo+1) (p (G8 o p (i-1)))∧xp wo wr) (fun v6 _=>n-(intOf v6).toNat)
 case atStart =>
  refine ⟨1,qB,qB,rfl,?_,?_,qD⟩
  ·constructor<;>simp [go_sem,tm0]
  ·constructor<;>simp [go_sem,G8]
 case round =>
  obtain ⟨i,hi1,hi,rfl,TZ,TM,dm⟩:=hrel;clear e0 e1 e2 e3 e4 e5 e6 e7;by_cases bj:i<n
  ·have jn:=(hp.keep dm).at bj;have uj:Z wr b 0 (.int .u8 o):=Bb dm hbx;have mb:=TM.lt;have TM':=TM;have BN:G8 o p (i+1-1)=if 0<F7 o (p i).mono (p (G8 o p (i-1))).mono then i else G8 o p (i-1):=by
    obtain ⟨j,rfl⟩:∃j,i=j+1:=⟨i-1,qB⟩;rfl
   have HBI:=Ae BN;have kz:=(hp.tm i bj).keep dm;have lj:=(hp.tm (G8 o p (i-1)) (by have:=Mz o p (i-1);omega)).keep dm;have OH:=Ae (Ax kz lj);clear BN kz lj;generalize ht:p i=t at *;generalize hs:p (G8 o p (i-1))=s at *;obtain ⟨r,hr⟩:∃r,F7 o t.mono s.mono=r:=⟨_,rfl⟩;have HR:=Ae hr;clear hr;obtain ⟨e0,e1,e2,e3,e4,e5,e6,e7⟩:=jn;obtain ⟨m0,m1,m2,m3,m4,m5,m6,m7,mf0,mf1,mf2,mf3,mf4,mf5,mf6,mf7⟩:=TM;have HB:=Ac wr wr;have sy:(0:Int)≤(i:Int):=qB;have j8:(i:Int)<(n:Int):=qB;clear hp;go_wp2_with fail;go_region_held3 (fun W=>Z W gb (go+i*8) (.bool t.g1)∧Z W gb (go+i*8+1) (.slice t.a1 t.n1 t.c1)∧Z W gb (go+i*8+2) (.bool t.g2)∧Z W gb (go+i*8+3) (.slice t.a2 t.n2 t.c2)∧Z W gb (go+i*8+4) (U t.m0)∧Z W gb (go+i*8+5) (U t.m1)∧Z W gb (go+i*8+6) (U t.m2)∧Z W gb (go+i*8+7) (U t.m3)∧Z W (wo+1) 0 (.bool s.g1)∧Z W (wo+1) 1 (.slice s.a1 s.n1 s.c1)∧Z W (wo+1) 2 (.bool s.g2)∧Z W (wo+1) 3 (.slice s.a2 s.n2 s.c2)∧Z W (wo+1) 4 (U s.m0)∧Z W (wo+1) 5 (U s.m1)∧Z W (wo+1) 6 (U s.m2)∧Z W (wo+1) 7 (U s.m3)) (exact qK) (first
    | (go_at_call 93;(with_reducible refine (sG _ o ho b t s (Bb qD uj) (OH.out.1.keep qD) (OH.out.2.keep qD)).mono ?_);rintro e w7 ⟨rfl,hb⟩;rw [HR.out];have iw:=zP wr hb;(replace ⟨m0,mf0,m1,mf1,m2,mf2,m3,mf3⟩:=xi iw m0 mf0 m1 mf1 m2 mf2 m3 mf3;replace ⟨m4,mf4,m5,mf5,m6,mf6,m7,mf7⟩:=xi iw m4 mf4 m5 mf5 m6 mf6 m7 mf7;replace ⟨e0,e1,e2,e3,e4,e5,e6,e7⟩:=xl iw e0 e1 e2 e3 e4 e5 e6 e7)))
   by_cases hc:0<r
   ·go_wp2_with fail;go_roundw
    case rel =>
     have hW:xp wo w7:=xo dm iw;refine ⟨i+1,qB,qB,by go_num,?_,?_,?_⟩
     ·have TZ7:=TZ.keep iw;obtain ⟨z0,z1,z2,z3,z4,z5,z6,z7,LP,LQ,LR,LS,WY,WZ,XA,XB⟩:=TZ7;constructor<;>simp [*,go_sem]
     ·rw [HBI.out,HR.out,if_pos hc,ht];have ZZ:wo.heap.size+1<w7:=Aa _ _ m0;clear e0 e1 e2 e3 e4 e5 e6 e7;constructor<;>simp [*,go_sem]
     ·have hq:wo.heap.size≤wo.heap.size+1:=qB;exact (((((((hW.setCell (p:=⟨wo+1,0,none⟩) hq _).setCell (p:=⟨wo+1,1,none⟩) hq _).setCell (p:=⟨wo+1,2,none⟩) hq _).setCell (p:=⟨wo+1,3,none⟩) hq _).setCell (p:=⟨wo+1,4,none⟩) hq _).setCell (p:=⟨wo+1,5,none⟩) hq _).setCell (p:=⟨wo+1,6,none⟩) hq _).setCell (p:=⟨wo+1,7,none⟩) hq _
    case measure=>(first|(simp [intOf];omega)|(simp [intOf];done))
   ·go_wp2_with fail;go_roundw
    case rel=>exact ⟨i+1,qB,qB,by go_num,TZ.keep iw,by rw [HBI.out,HR.out,if_neg hc,hs];exact TM'.keep iw,(xo dm iw)⟩
    case measure=>(first|(simp [intOf];omega)|(simp [intOf];done))
  ·obtain rfl:i=n:=qB;clear hp;obtain ⟨m0,m1,m2,m3,m4,m5,m6,m7,-,-,-,-,-,-,-,-⟩:=TM;obtain ⟨z0,z1,z2,z3,z4,z5,z6,z7,LP,LQ,LR,LS,WY,WZ,XA,XB⟩:=TZ;go_wp2_with fail;refine bodyPost_ret (v:=(p (G8 o p (i-1))).val) (by simp [*,results,results92,go_sem]) rfl ⟨rfl,qD⟩
theorem U1 (o:Nat):∀(l:Δ) (t y:PT),B8 o t (l++[y])=if 0<F7 o (exF y.1) (exF (B8 o t l).1) then y else B8 o t l
 | [],t,y=>rfl
 | x::l,t,y=>by
  rw [List.cons_append,B8,B8];exact U1 o l _ y
theorem bE {t:Tm} {x:PT} {w:World} (h:Ey t x) (hr:Dg w t):∀i,i<4→t.mono i=exF x.1 i:=by
 obtain ⟨e0,e1,e2,e3⟩:=Dz (a:=t.m0) (b:=t.m1) (c:=t.m2) (d:=t.m3) hr.s1 hr.s2 hr.s3 hr.s0;rw [h.key] at e0 e1 e2 e3;intro i hi
 match i,hi with
 | 0,_=>show (t.m0:Int)=(exN x.1 0:Nat);rw [e0]
 | 1,_=>show (t.m1:Int)=(exN x.1 1:Nat);rw [e1]
 | 2,_=>show (t.m2:Int)=(exN x.1 2:Nat);rw [e2]
 | 3,_=>show (t.m3:Int)=(exN x.1 3:Nat);rw [e3]
theorem iQ {w:World} {p:Nat→Tm} {o n:Nat} {x:PT} (hp:∀i,i<n→Dg w (p i)) (hl:n=l.length+1) (h:∀i y,(x::l)[i]? = some y→Ey (p i) y):∀k,k<n→Ey (p (G8 o p k)) (B8 o x (l.take k)):=by
 intro k
 induction k with
 | zero=>intro _;exact h 0 x rfl
 | succ k ih =>
  intro hk;have h1:=ih qB;obtain ⟨y,hy⟩:∃y,l[k]? = some y:=⟨_,Ai qB⟩;have h2:=h (k+1) y hy;have hb:=Mz o p k;have e:F7 o (p (k+1)).mono (p (G8 o p k)).mono=F7 o (exF y.1) (exF (B8 o x (l.take k)).1):=fO (bE h2 (hp _ qB)) (bE h1 (hp _ qB));rw [G8,List.take_add_one,hy,Option.toList_some,U1,e]
  split
  ·exact h2
  ·exact h1
theorem Yo (n c:Nat) (x:PT) (l:Δ) (h:Be w B a n c (x::l)) (hl:PW (x::l)) (K:Nat) (hK:Cj K (x::l)) (QF:K≤1000000) (o:Nat) (ho:o≤2) :
  Θ 20 #[.int .u8 o,.slice a n c] w (Sk w (B8 o x l)):=by
 obtain ⟨p,hp,jv⟩:=h.ts;have kx:=h.pok hl hp jv;have LJ:=h.few hK hp jv;have hlen:n=l.length+1:=by have:=h.len;simpa using this.symm
 have FR:0<n:=qB;have P1:=Ae kx;have P3:Hid (∀k,k<n→(p k).n1≤1000000∧(p k).n2≤1000000):=Ae fun k hk=>by have:=LJ k hk;omega
 have BN:=iQ (o:=o) (fun i hi=>hp.tm i hi) hlen (fun i y hy=>(jv i y hy).1) (n-1) qB;rw [As qB] at BN;have P5:=Ae BN;have vx:CW (B8 o x l).2:=by
  rcases J5 o l x with e|e
  ·rw [e];exact (hl.good x qH).1
  ·exact (hl.good _ (List.mem_cons_of_mem _ e)).1
 have P7:=Ae (Ax vx trivial);have XE:=Mz o p (n-1);have hbn:G8 o p (n-1)<n:=qB;clear BN vx XE;have HB:=Ac w w;clear kx LJ jv hlen hl hK;go_enter func20,ntmps20;go_wp2_with fail;refine (aQ _ a n c p (hp.keep qD) P3.out true ⟨fun _=>rfl,fun _=>P1.out⟩).mono ?_;rintro e w1 ⟨rfl,br⟩;rw [if_pos rfl];have O1:B1 w1 w (.int .u8 o):=B1.keep (by constructor<;>simp [go_sem]) br;have T1:Dt w1 (w+1) tm0:=Dt.keep (by constructor<;>simp [go_sem,tm0]) br;have ir:=zP w br;clear br HB;go_wp2_with fail;refine (eJ w1 a n c p (hp.keep ir) o ho FR _ O1.c0).mono ?_;rintro e w2 ⟨rfl,bp⟩;have T2:=T1.keep bp;have fg:=xo ir bp;have EJ:=hp.tm _ hbn;have ad3:=P5.out.frac EJ P7.out.1;have hq:=P3.out _ hbn;clear bp T1 ir hp P1 P3 O1;generalize B8 o x l=x at *;generalize p (G8 o p (n-1))=s at *;exact qAe
theorem zQ (x y:Nat):Θ 97 #[M x,M y] w (fun e w'=>e=.returned (M ((max x y:Nat):Int))∧w=w'):=by
 have hm:max (x:Int) (y:Int)=((max x y:Nat):Int):=qB;go_enter func97,ntmps97;go_wp2_with fail;go_ret;exact ⟨rfl,rfl⟩
theorem wY (a0 a1 a2 a3 b0 b1 b2 b3:Nat) (x0:a0<65536) (x1:a1<65536) (x2:a2<65536) (x3:a3<65536) (y0:b0<65536) (y1:b1<65536) (y2:b2<65536) (y3:b3<65536) :
  Θ 21 #[Cd a0 a1 a2 a3,Cd b0 b1 b2 b3] w (fun e w'=>e=.returned (Cd (max a0 b0) (max a1 b1) (max a2 b2) (max a3 b3))∧xp w w'):=by
 have hA:∀i,i<4→Ev a0 a1 a2 a3 i<65536:=fun i hi=>by rcases (by omega:i=0∨i=1∨i=2∨i=3) with rfl|rfl|rfl|rfl<;>assumption
 have hB:∀i,i<4→Ev b0 b1 b2 b3 i<65536:=fun i hi=>by rcases (by omega:i=0∨i=1∨i=2∨i=3) with rfl|rfl|rfl|rfl<;>assumption
 have hE:=fun W=>fS W 97 (Gn func97 qE rfl) (Ev a0 a1 a2 a3) (Ev b0 b1 b2 b3) (fun i=>((max (Ev a0 a1 a2 a3 i) (Ev b0 b1 b2 b3 i):Nat):Int)) (fun W i hi=>zQ W _ _) hA hB (fun i hi=>by have:=hA i hi;have:=hB i hi;omega) true ⟨fun _=>rfl,fun _ i hi=>by have:=hA i hi;have:=hB i hi;omega⟩
 simp only [Ev,Int.toNat_natCast] at hE;have HE:=Ae hE;clear hE hA hB;go_enter func21,ntmps21;go_wp2_with fail;refine (HE.out _).mono ?_;rintro e w1 ⟨rfl,br⟩;rw [if_pos qX];have R1:B4 w1 (w+1+1) (U 0) (U 0) (U 0) (U 0):=B4.keep (by constructor<;>simp [go_sem]) br;have ir:=zP w br;have hk:=R1.lt;clear br;obtain ⟨r0,r1,r2,r3,JJ,JK,JL,JM⟩:=R1;go_wp2_with fail;exact bodyPost_ret (v:=Cd (max a0 b0) (max a1 b1) (max a2 b2) (max a3 b3)) (by simp [*,results,results21,go_sem]) rfl ⟨rfl,qD⟩
theorem fV (a0 a1 a2 a3 b0 b1 b2 b3:Nat) (x0:a0<65536) (x1:a1<65536) (x2:a2<65536) (x3:a3<65536) (y0:b0<65536) (y1:b1<65536) (y2:b2<65536) (y3:b3<65536) (JW:¬(a0+b0<65536∧a1+b1<65536∧a2+b2<65536∧a3+b3<65536)) :
  Θ 169 #[Cd a0 a1 a2 a3,Cd b0 b1 b2 b3] w (fun e w'=>e=.returned (.tuple #[Cd 0 0 0 0,M 3])∧xp w w'):=by
 have hA:∀i,i<4→Ev a0 a1 a2 a3 i<65536:=fun i hi=>by rcases (by omega:i=0∨i=1∨i=2∨i=3) with rfl|rfl|rfl|rfl<;>assumption
 have hB:∀i,i<4→Ev b0 b1 b2 b3 i<65536:=fun i hi=>by rcases (by omega:i=0∨i=1∨i=2∨i=3) with rfl|rfl|rfl|rfl<;>assumption
 have hE:=fun W=>fS W 221 (Gn func221 qE rfl) (Ev a0 a1 a2 a3) (Ev b0 b1 b2 b3) (fun i=>((Ev a0 a1 a2 a3 i+Ev b0 b1 b2 b3 i:Nat):Int)) (fun W i hi=>(Kq W _ _ _ rfl (by have:=hA i hi;omega) (by have:=hB i hi;omega)).mono fun e w' h=>⟨h.1,h.2⟩) hA hB (fun i hi=>by have:=hA i hi;have:=hB i hi;omega) false ⟨fun h=>by
  have h0:=(h 0 qB).2;have h1:=(h 1 qB).2;have h2:=(h 2 qB).2;have h3:=(h 3 qB).2;simp only [Ev] at h0 h1 h2 h3;exact absurd ⟨qB,qB,qB,qB⟩ JW,fun h=>by cases h⟩
 have HE:=Ae hE;clear hE hA hB JW;go_enter func169,ntmps169;go_wp2_with fail;refine (HE.out _).mono ?_;rintro e w1 ⟨rfl,br⟩;rw [if_neg qH];have R1:B4 w1 (w+1+1) (U 0) (U 0) (U 0) (U 0):=B4.keep (by constructor<;>simp [go_sem]) br;have ir:=zP w br;have hk:=R1.lt;clear br;obtain ⟨r0,r1,r2,r3,JJ,JK,JL,JM⟩:=R1;go_wp2_with fail;exact bodyPost_ret (v:=.tuple #[Cd 0 0 0 0,M 3]) (by simp [*,results,results169,go_sem]) rfl ⟨rfl,qD⟩
def Sl (w:World) (l l':Δ) (e:Ending) (w':World):Prop:=(Cm l l'=true∧Ty w (Jk l l') e w')∨(Cm l l'=false∧e=.returned (.tuple #[.slice none 0 0,M 3])∧xp w w')
theorem Abg (B:Nat) (a:Γ) (n c:Nat) (l:Δ) (h:Be wo B a n c l) (hl:PW l) (K:Nat) (hK:Cj K l) (B':Nat) (a':Γ) (n' c':Nat) (l':Δ) (h':Be wo B' a' n' c' l') (hl':PW l') (K':Nat) (hK':Cj K' l')
  (CZ:K+K'≤100000) (hn:n≤400000) (KK:n*n'≤400000) (hw:∀k,wtk (C4 l l') k≤400000) :
  Θ 100 #[.slice a n c,.slice a' n' c'] wo (Sl wo l l'):=by
 obtain ⟨p,hp,jv⟩:=h.ts;obtain ⟨q,hq,xz⟩:=h'.ts;have P1:=Ae (h.pok hl hp jv);have Q1:=Ae (h'.pok hl' hq xz);have P3:Hid (∀k,k<n→(p k).n1≤1000000∧(p k).n2≤1000000):=Ae fun k hk=>by have:=h.few hK hp jv k hk;omega
 have Q3:Hid (∀k,k<n'→(q k).n1≤1000000∧(q k).n2≤1000000):=Ae fun k hk=>by have:=h'.few hK' hq xz k hk;omega
 have P5:=Ae jv;have Q5:=Ae xz;have P6:=Ae h.len;have Q6:=Ae h'.len;have P7:=Ae hl;have Q7:=Ae hl';have P8:=Ae hK;have Q8:=Ae hK';have HW:=Ae hw;have HNN:=Ae KK;have HB:=Ac wo wo;have hnf:=hp.few;have ank:=hq.few;have xy:=@run_makeMap prog;clear jv xz hl hl' hK hK' hw KK;go_enter func100,ntmps100;go_wp2_with fail;refine (Fz _ a n c p (hp.keep qD) P3.out true ⟨fun _=>rfl,fun _=>P1.out⟩).mono ?_;rintro e w1 ⟨rfl,br⟩;go_wp2_with fail;refine (Fz _ a' n' c' q ((hq.keep br).keep qD) Q3.out true ⟨fun _=>rfl,fun _=>Q1.out⟩).mono ?_;rintro e w2 ⟨rfl,bp⟩;have fg:Below wo wo w2:=xo br bp;clear br bp HB;go_wp2_with fail;have LK:Ew (w2.alloc (.map #[] 0)) w2 0 (w2+1) (fun _=>none):=⟨.map [],id,World.ownsMap_made w2 prog 56 RH,Gj.empty _ _ _⟩;have ep:Below wo wo (w2.alloc (.map #[] 0)):=fg.trans ((by go_grown:Below w2 w2 _).mono fg.size);have hMo:wo.heap.size≤w2:=fg.size;generalize w2.heap.size=MB at *;clear fg;go_loopw [24] (fun v24 wr=>∃k:Nat,k≤n∧v24=M k∧Ew wr MB (k*n') (MB+1) (D2 (C4 (l.take k) l'))∧Below wo wo wr∧Hid (Cm (l.take k) l'=true)) (fun v24 _=>n-(intOf v24).toNat)
 case atStart=>exact ⟨0,qB,rfl,by rw [Nat.zero_mul];simpa [D2,C4] using LK,qD,Ae rfl⟩
 case round =>
  obtain ⟨k,hk,rfl,hM,dm,HOK⟩:=hrel;clear LK ep;by_cases bj:k<n
  ·obtain ⟨gb,go,rfl,_⟩:=hp.cell.resolve_left qB;have ky:k<l.length:=by rw [P6.out];exact bj
   obtain ⟨x,hx⟩:∃x,l[k]? = some x:=⟨_,Ai ky⟩;have hmx:=A7 hx;have jn:=(hp.keep dm).at bj;have WR:=hp.tm k bj;have WS:=(P5.out k x hx).1;have xz:=P3.out k bj;have IG:=P7.out.good x hmx;have hkx:=P8.out x hmx;have TH:=Ae (show ∀j,C4 l l'=(C4 (l.take k) l'++(l'.take j).map fun t=>(Fg x.1 t.1,Ct x.2 t.2))++((l'.drop j).map (fun t=>(Fg x.1 t.1,Ct x.2 t.2))++C4 (l.drop (k+1)) l') from fun j=>by
    have e1:l=l.take k++x::l.drop (k+1):=qFa;rw [List.append_assoc,←List.append_assoc (List.map _ _),←List.map_append,List.take_append_drop,←Ke,←Kd,←e1])
   have HT:=Ae (show l.take (k+1)=l.take k++[x] by rw [List.take_add_one,hx];rfl);generalize hs:p k=s at *;obtain ⟨e0,e1,e2,e3,e4,e5,e6,e7⟩:=jn;obtain ⟨w,rfl⟩:∃w:World,w=wr:=⟨_,rfl⟩;have vv:k*n'+n'≤400000:=qEu;have iq:=WS.frac WR IG.1;have TJ:=Ae IG;have QQ:=Ae (Ax WS WR);have hMw:MB<w.heap.size:=by obtain ⟨D,_,hD,_⟩:=hM.ex;exact hD.lt
   have T0:=Dt.new w s;have hMA:Ew (w.alloc (.cells #[.bool s.g1,.slice s.a1 s.n1 s.c1,.bool s.g2,.slice s.a2 s.n2 s.c2,U s.m0,U s.m1,U s.m2,U s.m3] 58)) MB (k*n') (MB+1) (D2 (C4 (l.take k) l')):=hM.keep qD;have QT:=dm.trans ((by go_grown:Below w w (w.alloc (.cells #[.bool s.g1,.slice s.a1 s.n1 s.c1,.bool s.g2,.slice s.a2 s.n2 s.c2,U s.m0,U s.m1,U s.m2,U s.m3] 58))).mono dm.size);clear hx ky IG WS WR hs;go_wp2_with fail;go_loopw [30] (fun v30 wi=>∃j:Nat,j≤n'∧v30=M j∧Dt wi w s∧Ew wi MB (k*n'+j) (MB+1) (D2 (C4 (l.take k) l'++(l'.take j).map fun t=>(Fg x.1 t.1,Ct x.2 t.2)))∧Below wo wo wi∧Hid (∀y∈l'.take j,Gr x.1 y.1=true)) (fun v30 _=>n'-(intOf v30).toNat)
   case atStart=>exact ⟨0,qB,rfl,T0,by simpa using hMA,QT,Ae (fun y hy=>by simp at hy)⟩
   case round =>
    obtain ⟨j,hj,rfl,TS,WU,FN,HKO⟩:=hrel;clear hM hMA QT T0 dm e0 e1 e2 e3 e4 e5 e6 e7;by_cases QU:j<n'
    ·obtain ⟨gc,go',rfl,_⟩:=hq.cell.resolve_left qB;have yi:j<l'.length:=by rw [Q6.out];exact QU
     obtain ⟨y,hy⟩:∃y,l'[j]? = some y:=⟨_,Ai yi⟩;have IJ:=A7 hy;obtain ⟨e0,e1,e2,e3,e4,e5,e6,e7⟩:=(hq.keep FN).at QU;have EI:=hq.tm j QU;have FO:=(Q5.out j y hy).1;have hqy:=Q3.out j QU;have CK:=Q7.out.good y IJ;have hky:=Q8.out y IJ;have HT':=Ae (show l'.take (j+1)=l'.take j++[y] by rw [List.take_add_one,hy];rfl);have yq:=Ae (show ∀z∈C4 (l.take k) l'++(l'.take j).map (fun t=>(Fg x.1 t.1,Ct x.2 t.2))++[(Fg x.1 y.1,Ct x.2 y.2)],CW z.2 from fun z hz=>by
      rcases List.mem_append.1 hz with hz|hz
      ·exact qCj
      ·rw [Ao] at hz;subst hz;exact TJ.out.1.mul CK.1)
     generalize xw:q j=t at *;obtain ⟨wi,rfl⟩:∃w':World,w'=wr:=⟨_,rfl⟩;have sk:=FO.frac EI CK.1;have OK:=QQ.out.2;have ex:=Dz OK.s1 OK.s2 OK.s3 OK.s0;have ey:=Dz EI.s1 EI.s2 EI.s3 EI.s0;rw [QQ.out.1.key] at ex;rw [FO.key] at ey;by_cases rm:Gr x.1 y.1=true
     ·have SN:=Ae rm;have CY:=rm;unfold Gr at CY;rw [ex.1,ex.2.1,ex.2.2.1,ex.2.2.2,ey.1,ey.2.1,ey.2.2.1,ey.2.2.2] at CY;simp only [Bool.and_eq_true,decide_eq_true_eq] at CY;obtain ⟨⟨⟨u0,u1⟩,u2⟩,u3⟩:=CY;have HKY:=Ae (show Bv (s.m0+t.m0) (s.m1+t.m1) (s.m2+t.m2) (s.m3+t.m3)=Fg x.1 y.1 by unfold Fg;rw [ex.1,ex.2.1,ex.2.2.1,ex.2.2.2,ey.1,ey.2.1,ey.2.2.1,ey.2.2.2]);clear ex ey rm yi hy xw EI FO;have QV:=TS;have vp:=TS.lt;obtain ⟨t0,t1,t2,t3,t4,t5,t6,t7,-,-,-,-,-,-,-,-⟩:=TS;have TT0:=Dt.new wi t;go_wp2_with fail;refine Bt ?_;intro w3 eb;have b3:Below wi wi w3:=by rw [eb];go_grown
      have TT3:Dt w3 wi t:=by rw [eb];exact TT0
      have TS3:=QV.keep b3;clear eb TT0 QV t0 t1 t2 t3 t4 t5 t6 t7;generalize NQ:s.m0+t.m0=v0 at *;generalize QI:s.m1+t.m1=v1 at *;generalize WD:s.m2+t.m2=v2 at *;generalize JV:s.m3+t.m3=v3 at *;refine (Wt w3 s.m0 s.m1 s.m2 s.m3 t.m0 t.m1 t.m2 t.m3 v0 v1 v2 v3 NQ.symm QI.symm WD.symm JV.symm u0 u1 u2 u3).mono ?_;clear NQ QI WD JV;rintro e w4 ⟨rfl,ec⟩;have TS4:=TS3.keep ec;have TT4:=TT3.keep ec;have b4:=xo b3 ec;clear TS3 TT3 ec b3;go_wp2_with fail;refine Bx ?_;intro w5 iy;have QW:Below w4 w4 w5:=by rw [iy];go_grown
      have MBx:B4 w5 w4 (U v0) (U v1) (U v2) (U v3):=by rw [iy];constructor<;>simp [go_sem]
      have TS5:=TS4.keep QW;have QX:=TT4.keep QW;have b5:=xo b4 QW;have QV:=TS5;clear iy TS4 TT4 QW;have z4:=b4.size;generalize w4.heap.size=MM at *;obtain ⟨k0,k1,k2,k3,-,-,-,-⟩:=MBx;obtain ⟨t0,t1,t2,t3,-,-,-,-,-,-,-,-,-,-,-,-⟩:=TS5;obtain ⟨r0,r1,r2,r3,-,-,-,-,-,-,-,-,-,-,-,-⟩:=QX;have oq:=xo FN b5;have WV:=iq.keep oq;have WW:=sk.keep oq;have z5:=b5.size;have anq:MB<wi.heap.size:=by obtain ⟨D,_,hD,_⟩:=WU.ex;exact hD.lt
      have HFM:=Ae (Ax (TJ.out.1.mul CK.1) (Ch.mono (Ch.mul TJ.out.1 CK.1 hkx hky) (show K+K'≤1000000000 from qB)));have HYK:=Ae (show ∀z,D2 (C4 (l.take k) l'++(l'.take j).map fun t=>(Fg x.1 t.1,Ct x.2 t.2)) (Fg x.1 y.1)=some z→Ch 1000000000 z from fun z hz=>by
       have h1:=(Lz (fun u hu=>yq.out u (List.mem_append.2 (.inl hu))) hz).2;refine Ch.mono h1 ?_;have h3:=congrArg (fun L=>wtk L (Fg x.1 y.1)) (TH.out j);simp only [Iu] at h3;rw [Iu];have h4:=HW.out (Fg x.1 y.1)
       omega)
      go_region_held3 (fun W=>Z W w 0 (.bool s.g1)∧Z W w 1 (.slice s.a1 s.n1 s.c1)∧Z W w 2 (.bool s.g2)∧Z W w 3 (.slice s.a2 s.n2 s.c2)∧Z W wi 0 (.bool t.g1)∧Z W wi 1 (.slice t.a1 t.n1 t.c1)∧Z W wi 2 (.bool t.g2)∧Z W wi 3 (.slice t.a2 t.n2 t.c2)∧Z W MM 0 (U v0)∧Z W MM 1 (U v1)∧Z W MM 2 (U v2)∧Z W MM 3 (U v3)) (exact qK) (first
       | (go_at_call 94;(with_reducible refine (Qx _ _ _ _ _ _ _ _ _ _ _ (WV.keep qD) _ _ _ _ _ _ _ _ _ _ (WW.keep qD) qB qB qB qB).mono ?_);rintro e w8 ⟨DA,zu,DZ,zw,DB,AA,EA,AB,rfl,LZ,EB,EC,gw,hb⟩;have hmul:Bo w8 DA zu DZ zw (Ct x.2 y.2).1 DB AA EA AB (Ct x.2 y.2).2:=LZ;have jt:=zP w5 hb;have z8:=jt.size;have OD:Bc wi w8 zu zw:=EB.mono zB;have OE:Bc wi w8 AA AB:=EC.mono zB;(replace ⟨k0,k1,k2,k3,t0,t1,t2,t3⟩:=xl jt k0 k1 k2 k3 t0 t1 t2 t3;replace ⟨r0,r1,r2,r3⟩:=xj jt r0 r1 r2 r3))
       | (go_at_call 170;(with_reducible refine (gU wi w8 MB (k*n'+j) (MB+1) _ WU (xo b5 jt) (Ag _) qB qB DA zu DZ zw DB AA EA AB (Ct x.2 y.2) hmul OD OE gw v0 v1 v2 v3 u0 u1 u2 u3 HFM.out.2 (by rw [HKY.out];exact HYK.out)).mono ?_);rintro e w9 ⟨rfl,hM9,mg⟩;have rr:∀i v,i≠MB→w8.cell? ⟨i,v,none⟩=w8.cell? (J i v):=(fun _ _ _=>rfl);clear rr;replace k0:=mg.cell k0 qL;replace k1:=mg.cell k1 qL;replace k2:=mg.cell k2 qL;replace k3:=mg.cell k3 qL;replace t0:=mg.cell t0 qL;replace t1:=mg.cell t1 qL;replace t2:=mg.cell t2 qL;replace t3:=mg.cell t3 qL;replace r0:=mg.cell r0 qL;replace r1:=mg.cell r1 qL;replace r2:=mg.cell r2 qL;replace r3:=mg.cell r3 qL))
      have WX:Below wo wo w9:=Below.grown (xo oq jt) mg (by have:=oq.size;omega) (fun j hj=>by cases hj;exact hMo);have TS9:=(QV.keep jt).row mg qL;rw [HKY.out] at hM9;go_wp2_with fail;go_roundw
      case rel =>
       refine ⟨j+1,qB,by go_num,TS9,?_,WX,Ae (fun z hz=>by rw [HT'.out] at hz;rcases List.mem_append.1 hz with hz|hz;exact HKO.out z hz;rw [Ao.1 hz];exact SN.out)⟩;exact qDh
      case measure=>(first|(simp [intOf];omega)|(simp [intOf];done))
     ·have CY:¬(s.m0+t.m0<65536∧s.m1+t.m1<65536∧s.m2+t.m2<65536∧s.m3+t.m3<65536):=fun hh=>rm (by
       unfold Gr;rw [ex.1,ex.2.1,ex.2.2.1,ex.2.2.2,ey.1,ey.2.1,ey.2.2.1,ey.2.2.2];simp only [Bool.and_eq_true,decide_eq_true_eq];exact ⟨⟨⟨hh.1,hh.2.1⟩,hh.2.2.1⟩,hh.2.2.2⟩)
      have DI:=Ae (Ax CY (Ax OK EI));have HFL:Hid (Cm l l'=false):=Ae (by
       rw [Bool.eq_false_iff];intro h9;exact rm (Ge.1 h9 x hmx y IJ))
      clear ex ey rm yi hy xw EI FO CY;have vp:=TS.lt;obtain ⟨t0,t1,t2,t3,t4,t5,t6,t7,-,-,-,-,-,-,-,-⟩:=TS;go_wp2_with fail;refine (fV _ s.m0 s.m1 s.m2 s.m3 t.m0 t.m1 t.m2 t.m3 DI.out.2.1.s0 DI.out.2.1.s1 DI.out.2.1.s2 DI.out.2.1.s3 DI.out.2.2.s0 DI.out.2.2.s1 DI.out.2.2.s2 DI.out.2.2.s3 DI.out.1).mono ?_;rintro e w4 ⟨rfl,ec⟩;have o8:Below wo wo w4:=FN.trans ((Al qD (ec.mono qA)).mono FN.size);clear FN;go_wp2_with fail;refine bodyPost_ret (v:=.tuple #[.slice none 0 0,M 3]) (by simp [results,results100,go_sem]) rfl ?_;exact .inr ⟨HFL.out,rfl,o8.trans (Below.mono (show Below w4 w4 _ from qD) o8.size)⟩
    ·obtain rfl:j=n':=qB;go_wp2_with fail;go_roundw
     case rel =>
      refine ⟨k+1,qB,by go_num,?_,FN,Ae (Ge.2 (fun u hu v hv=>by rw [HT.out] at hu;rcases List.mem_append.1 hu with hu|hu;exact Ge.1 HOK.out u hu v hv;rw [Ao.1 hu];exact HKO.out v (by rw [As (by rw [Q6.out];exact Ad _)];exact hv)))⟩;exact qCz
     case measure=>(first|(simp [intOf];omega)|(simp [intOf];done))
  ·obtain rfl:k=n:=qB;rw [As (by rw [P6.out];exact Ad _)] at hM;have HO:Hid (Cm l l'=true):=by rw [As (by rw [P6.out];exact Ad _)] at HOK;exact HOK
   have hMw:MB<wr.heap.size:=by obtain ⟨D,_,hD,_⟩:=hM.ex;exact hD.lt
   have yq:∀z∈C4 l l',CW z.2:=fun z hz=>qFk
   have rm:∀j x,D2 (C4 l l') j=some x→j<18446744073709551616∧Ch 1000000 x:=fun j x hx=>qBr
   have vv:=HNN.out;have HS:=Ae yq;clear yq;go_wp2_with fail;refine (iR _ MB _ (MB+1) _ hM qB qB rm).mono ?_;rintro e w6 ⟨a6,n6,c6,r,rfl,hr,JO,eh,JE,ee⟩;obtain rfl:=Ml HS.out eh JE;go_wp2_with fail;refine bodyPost_ret (v:=.tuple #[.slice a6 n6 c6,M 0]) (by simp [results,results100,go_sem]) rfl ?_;exact .inl ⟨HO.out,a6,n6,c6,rfl,hr.mono qB,JO.mono qB,(xo dm ee)⟩
theorem xL (n c:Nat) (p:Nat→Tm) (hp:RdP w a n c p) (mh:∀k,k<n→(p k).n1≤1000000∧(p k).n2≤1000000) (r:Bool) (hr:POk p n↔r=true) :
  Θ 89 #[.slice a n c] w fun e w'=>e=.returned (.bool (!r))∧xp w w':=by
 have HB:=Ac w w;have HR:=Ae hr;clear hr;go_enter func89,ntmps89;go_wp2_with fail;refine (Fz _ a n c p (hp.keep qD) mh r HR.out).mono ?_;exact qDk
def Eh (w:World) (v:Value) (r:Bool):Prop:=∃a n c p,v=.slice a n c∧RdP w a n c p∧(∀k,k<n→(p k).n1≤1000000∧(p k).n2≤1000000)∧(POk p n↔r=true)
theorem Eh.keep {w w':World} {v:Value} {r:Bool} (h:Eh w v r) (hb:xp w w'):Eh w' v r:=by
 obtain ⟨a,n,c,p,h1,h2,h3,h4⟩:=h;exact ⟨a,n,c,p,h1,h2.keep hb,h3,h4⟩
theorem Eh.of {w:World} {B n c K:Nat} {a:Γ} (h:Be w B a n c l) (hl:PW l) (hK:Cj K l) (QF:K≤1000000):Eh w (.slice a n c) true:=by
 obtain ⟨p,hp,jv⟩:=h.ts;exact ⟨a,n,c,p,rfl,hp,fun k hk=>by have:=h.few hK hp jv k hk;omega,⟨fun _=>rfl,fun _=>h.pok hl hp jv⟩⟩
theorem gV (o:Nat) (al:Γ) (m cl:Nat) (ij:m≤cl) (hm:m≤35184372088832) (us:Nat→Value) (rs:Nat→Bool) (je:m=0∨∃b k,al=some ⟨b,k,none⟩∧∀i,i<m→Z w b (k+i) (us i)) (xq:∀i,i<m→Eh w (us i) (rs i)) (r:Bool) (hr:r=true↔o≤2∧∀i,i<m→rs i=true) :
  Θ 19 #[.int .u8 o,.slice al m cl] w fun e w'=>e=.returned (.bool r)∧xp w w':=by
 have HB:=Ac w w;have HR:=Ae hr;have HC:=Ae (X6 w al m cl ij hm us je 89 #[] (Gn func89 qE rfl) (fun i=>rs i=false) (fun i hi W hW=>by
  obtain ⟨a,n,c,p,e1,h2,h3,h4⟩:=(xq i hi).keep hW;rw [e1];refine (xL W a n c p h2 h3 (rs i) h4).mono ?_;rintro e w' ⟨rfl,hb⟩;exact ⟨_,rfl,by cases rs i<;>simp,hb⟩))
 clear hr xq je;go_enter func19,ntmps19;by_cases ho:(o:Int)≤2
 ·go_wp2_with fail;refine HC.out.mono ?_;rintro e w1 ⟨b,rfl,hb,br⟩;have HH:=Ae hb;clear hb;go_wp2_with fail;go_ret;refine ⟨?_,br⟩;have e9:(!b)=r:=by
   have h1:=HH.out;have h2:=HR.out
   cases b<;>cases r
   ·exact absurd (h2.2 ⟨qB,fun i hi=>by
     cases hx:rs i
     ·exact absurd (h1.2 ⟨i,hi,hx⟩) qI
     ·rfl⟩) qI
   ·rfl
   ·rfl
   ·obtain ⟨i,hi,hx⟩:=h1.1 rfl;have:=(h2.1 rfl).2 i hi;rw [hx] at this;cases this
  rw [e9];rfl
 ·go_wp2_with fail;go_ret;refine ⟨?_,HB⟩;have e9:r=false:=by
   cases r
   ·rfl
   ·have:=(HR.out.1 rfl).1;omega
  rw [e9];rfl
theorem Wj (n c:Nat) (l:Δ) (h:Be w B a n c l) (hl:PW l) (K:Nat) (hK:Cj K l) (QF:K≤50000) (hn:n≤400000) (m0 m1 m2 m3:Nat) (s0:m0<65536) (s1:m1<65536) (s2:m2<65536) (s3:m3<65536)
  (g1:Bool) (a1:Γ) (n1 c1:Nat) (g2:Bool) (a2:Γ) (n2 c2:Nat) (y:PC) (hy:Bo w g1 a1 n1 c1 y.1 g2 a2 n2 c2 y.2) (hcy:CW y) (h0:y.1≠0) (q1:n1≤50000) (q2:n2≤50000) (hw:∀k,wtk (C4 l [(Bv m0 m1 m2 m3,Fl y)]) k≤400000) :
  Θ 23 #[.slice a n c,.agg #[U m0,U m1,U m2,U m3],.agg #[.bool g1,.slice a1 n1 c1,.bool g2,.slice a2 n2 c2]] w (Sl w l [(Bv m0 m1 m2 m3,Fl y)]):=by
 have HW:=Ae hw;have HB:=Ac w w;clear hw;have QG:Ch 50000 (Fl y):=I9 ⟨by have:=hy.top.rd.len;omega,by have:=hy.low.rd.len;omega⟩;have HF:=Ae QG;clear QG;go_enter func23,ntmps23;go_wp2_with fail;refine Bx ?_;intro w1 fk;have b1:Below w w w1:=by rw [fk];go_grown
 have zb1:=b1.size;have i0:Z w1 w 0 (U m0):=by rw [fk];simp [go_sem]
 have i1:Z w1 w 1 (U m1):=by rw [fk];simp [go_sem]
 have i2:Z w1 w 2 (U m2):=by rw [fk];simp [go_sem]
 have i3:Z w1 w 3 (U m3):=by rw [fk];simp [go_sem]
 have t0:Z w1 (w+1) 0 (.bool g1):=by rw [fk];simp [go_sem]
 have t1:Z w1 (w+1) 1 (.slice a1 n1 c1):=by rw [fk];simp [go_sem]
 have t2:Z w1 (w+1) 2 (.bool g2):=by rw [fk];simp [go_sem]
 have t3:Z w1 (w+1) 3 (.slice a2 n2 c2):=by rw [fk];simp [go_sem]
 have hyw:=hy.keep b1;clear fk;generalize hT:w.heap.size=T at *;have HT:=Ae hT;clear hT;have hT1:T+1<w1.heap.size:=Aa _ _ t0;have ir:=Ac w1 w1;have m1':¬w1.heap.size=T+1:=qB;have m2':¬T+1=w1.heap.size:=qB;go_cut [8] (fun v8 wd=>aR w1 wd v8 (Fl y))
 case first =>
  go_region_held3 (fun W=>Z W (T+1) 0 (.bool g1)∧Z W (T+1) 1 (.slice a1 n1 c1)∧Z W (T+1) 2 (.bool g2)∧Z W (T+1) 3 (.slice a2 n2 c2)) (exact qK) (first
   | (go_at_call 95;(with_reducible refine (Nx _ 1 qB qB).mono ?_);rintro e w2 ⟨g3,a3,n3,c3,g4,a4,n4,c4,rfl,j7,sq,GJ,gw,hb⟩;obtain ⟨hc,hf⟩:=Bg hb;have bp:=zP w1 hb;have hz:=hb.size;(try simp only [Aj,Ak] at hz);replace ir:=bp;(replace ⟨t0,t1,t2,t3⟩:=xj bp t0 t1 t2 t3);have SC:=Fk j7.top qI;have hq4:=Fk j7.low qI;(try have k1:w1.heap.size<w2:=qB))
   | (go_at_call 99;(with_reducible refine (dP _ _ _ _ _ (1,1) _ _ _ _ (j7.keep qD) _ _ _ _ y _ _ _ _ (hyw.keep qD) h0 qB qB qB qB).mono ?_);rintro e w3 ⟨g5,a5,n5,c5,g6,a6,n6,c6,rfl,ew,nh,ED,hb⟩;obtain ⟨hc,hf⟩:=Bg hb;have ea:=zP w2 hb;have hz:=hb.size;(try simp only [Aj,Ak] at hz);replace ir:Below w1 w1 w3:=xo ir ea;(replace ⟨t0,t1,t2,t3⟩:=xj ea t0 t1 t2 t3);(try have k1:w1.heap.size<w3:=qB);(try have k2:w2.heap.size<w3:=qB)))
  all_goals
   exact qAs
 case rest =>
  obtain ⟨C,g5,a5,n5,c5,g6,a6,n6,c6,rfl,z0,z1,z2,z3,ew,iy,uk,HD⟩:=hcut;replace ⟨i0,i1,i2,i3⟩:=xj HD i0 i1 i2 i3;clear m1' m2' t0 t1 t2 t3;have HWD:=b1.trans (HD.mono zb1);have hzc:=HWD.size;have hTw:T≤w1.heap.size:=qB;go_wp2_with fail;refine Bt ?_;intro w5 iy;have XF:=Be.one (w:=wc) (B:=0) ⟨g5,a5,n5,c5,dg (Fl y).1.natAbs,g6,a6,n6,c6,dg (Fl y).2.natAbs,m0,m1,m2,m3⟩ (x:=(Bv m0 m1 m2 m3,Fl y)) ⟨ew.top.neg,rfl,ew.low.neg,rfl,rfl⟩ ⟨ew.top.rd,ew.low.rd,s0,s1,s2,s3⟩ (Ba _) (.inr fun _ _=>Ba _) (.inr fun _ _=>Ba _);simp only at XF;rw [←iy] at XF;have b5:Below wc wc w5:=by rw [iy];go_grown
  have HW5:Below T w w5:=HWD.trans (b5.mono (by rw [←HT.out];exact hzc));clear iy z0 z1 z2 z3 i0 i1 i2 i3;have aeh:CW (Fl y)∧(Fl y).1≠0:=⟨Kw h0,Qk h0 hcy.pos⟩;have KK:n*1≤400000:=qB;refine (Abg w5 B a n c l (h.keep (by unfold xp;rw [HT.out];exact HW5)) hl K hK 0 _ 1 1 [(Bv m0 m1 m2 m3,Fl y)] XF ⟨by simp [Dh],fun t ht=>by simp only [Ao] at ht;subst ht;exact aeh,fun t ht=>by simp only [Ao] at ht;subst ht;exact Ka s0 s1 s2 s3⟩ 50000 (fun t ht=>by simp only [Ao] at ht;subst ht;exact HF.out) qB hn KK HW.out).mono ?_;have DD:T≤w5.heap.size:=by have:=HW5.size;have:=HT.out;omega
  have aei:Below w w w5:=by rw [HT.out];exact HW5
  have QY:w.heap.size≤w5:=by rw [HT.out];exact DD
  rintro e w6 (⟨kx,a9,n9,c9,rfl,P6,O6,ee⟩|⟨JW,rfl,ee⟩)
  ·go_wp2_with fail;refine bodyPost_ret (v:=.tuple #[.slice a9 n9 c9,M 0]) (by simp [results,results23,go_sem]) rfl ?_;exact .inl ⟨kx,_,_,_,rfl,P6.mono QY,O6.mono QY,aei.trans (ee.mono QY)⟩
  ·go_wp2_with fail;refine bodyPost_ret (v:=.tuple #[.slice none 0 0,M 3]) (by simp [results,results23,go_sem]) rfl ?_;exact .inr ⟨JW,rfl,aei.trans (ee.mono QY)⟩
end Go.Proofs.YtfijkfdfbnfmmaaGreatDoor
end
