/- Package monos: each (two products' counts put together by a function), Mul and Div in general. -/
import Derived.Test.YtnnhcbeiogaknaaGreatDoorQV26
import Derived.Test.YtnnhcbeiogaknaaGreatDoorQV21
set_option linter.unusedSimpArgs false
set_option linter.unusedVariables false
set_option maxRecDepth 100000
set_option maxHeartbeats 4000000
section
namespace Go.Proofs.YtnnhcbeiogaknaaGreatDoor
open Go.RowKit
def Puts (F:Nat) (A B:Nat→Nat) (S:Nat→Int):Prop:=∀W i,i<4→Θ F #[.int .i64 (A i:Nat),.int .i64 (B i:Nat)] W (fun e w'=>e=.returned (.int .i64 (S i))∧W=w')
theorem Nt {s:Int} (h:0≤s):((s.toNat:Nat):Int)=s:=by omega
theorem Abt (w:World) (F:Nat) (hE:∀args W,(callFunc F args).run Tryz.prog W=.ok (.enter F args) W) (A B:Nat→Nat) (S:Nat→Int) (hP:Puts F A B S) (hA:∀i,i<4→A i<65536) (hB:∀i,i<4→B i<65536) (hS:∀i,i<4→-65536<S i∧S i<131072) (ok:Bool) (hok:(∀i,i<4→0≤S i∧S i≤65535)↔ok=true) :
  Θ 100 #[Da (A 0) (A 1) (A 2) (A 3),Da (B 0) (B 1) (B 2) (B 3),.func (.func F) #[] #[]] w (fun e w'=>e=.returned (.tuple #[if ok then Da (S 0).toNat (S 1).toNat (S 2).toNat (S 3).toNat else Da 0 0 0 0,.bool ok])∧Below w.heap.size w w'):=by
 have HP:=Ae hP;have HA:=Ae hA;have HBB:=Ae hB;have HS:=Ae hS;have HO:=Ae hok;clear hP hA hB hS hok;go_enter Tryz.func100,Tryz.ntmps100;go_wp2_with fail;go_loopw [10] (fun v wr=>∃k:Nat,k≤4∧v=.int .i64 k∧(∀i,i<4→wr.cell? ⟨w.heap.size,i,none⟩=some (.int .u16 (A i:Nat)))∧(∀i,i<4→wr.cell? ⟨w.heap.size+1,i,none⟩=some (.int .u16 (B i:Nat)))∧(∀i,i<4→wr.cell? ⟨w.heap.size+1+1,i,none⟩=some (.int .u16 (if i<k then S i else 0))∧wr.frozen? ⟨w.heap.size+1+1,i,none⟩=false)∧(∀i,i<k→0≤S i∧S i≤65535)∧w.heap.size+1+1<wr.heap.size∧Below w.heap.size w wr) (fun v _=>4-(intOf v).toNat)
 case atStart =>
  refine ⟨0,by omega,rfl,fun i hi=>?_,fun i hi=>?_,fun i hi=>?_,fun i hi=>by omega,by simp,by go_grown⟩;all_goals (rcases (by omega:i=0∨i=1∨i=2∨i=3) with rfl|rfl|rfl|rfl<;>simp [go_sem,Da])
 case round =>
  obtain ⟨k,hk,rfl,cA,cB,cO,hs,hsz,HBr⟩:=hrel;by_cases hlt:k<4
  ·have a1:=cA k hlt;have b1:=cB k hlt;have o1:=(cO k hlt).1;have o2:=(cO k hlt).2;have hSk:=HS.out k hlt;have ha:=HA.out k hlt;have hb:=HBB.out k hlt;have wa:IntKind.i64.wrap (A k:Int)=A k:=IntWalk.i64_in _ qA;have wb:IntKind.i64.wrap (B k:Int)=B k:=IntWalk.i64_in _ qA;have CA:=Ae cA;have CB:=Ae cB;have CO:=Ae cO;have hq:=fun W=>HP.out W k hlt
   clear cA cB cO;have hk0:(0:Int)≤(k:Int):=by omega
   have hk4:(k:Int)<4:=by omega
   go_wp2_with fail;go_quiet ((exact Ga (hq _)));have HD:=Bu nq HBr;have wS:0≤S k→S k≤65535→IntKind.u16.wrap (S k)=S k:=fun h1 h2=>by
    show (S k)%65536=S k;omega
   by_cases hbad:0≤S k∧S k≤65535
   ·obtain ⟨hb1,hb2⟩:=hbad;have wS2:=wS hb1 hb2;clear wS;go_wp2_with fail;go_roundw
    case rel =>
     refine ⟨k+1,by omega,by go_num,fun i hi=>?_,fun i hi=>?_,fun i hi=>?_,fun i hi=>?_,by simpa using hsz,by go_grown⟩
     ·have:=CA.out i hi;simp [*,go_sem]
     ·have:=CB.out i hi;simp [*,go_sem]
     ·have h1:=(CO.out i hi).1;have h2:=(CO.out i hi).2;by_cases hik:i=k
      ·subst hik;simp [*,go_sem]
      ·have hki:¬k=i:=fun e=>hik e.symm
       have hlt2:(i<k+1)=(i<k):=propext ⟨fun _=>by omega,fun _=>by omega⟩;simp [*,go_sem]
     ·rcases Nat.lt_or_ge i k with h|h
      ·exact hs i h
      ·obtain rfl:i=k:=by omega
       exact ⟨hb1,hb2⟩
    case measure=>(first|(simp [intOf];omega)|(simp [intOf];done))
   ·have hokf:ok=false:=by
     cases ok with
     | false=>rfl
     | true=>exact absurd (HO.out.2 rfl k hlt) hbad
    subst hokf;clear wS;obtain ⟨v0,p0⟩:∃v,wr.cell? ⟨w.heap.size+1+1,0,none⟩=some v:=⟨_,(CO.out 0 qA).1⟩;obtain ⟨v1,p1⟩:∃v,wr.cell? ⟨w.heap.size+1+1,1,none⟩=some v:=⟨_,(CO.out 1 qA).1⟩;obtain ⟨v2,p2⟩:∃v,wr.cell? ⟨w.heap.size+1+1,2,none⟩=some v:=⟨_,(CO.out 2 qA).1⟩;obtain ⟨v3,p3⟩:∃v,wr.cell? ⟨w.heap.size+1+1,3,none⟩=some v:=⟨_,(CO.out 3 qA).1⟩;have g0:=(CO.out 0 qA).2;have g1:=(CO.out 1 qA).2;have g2:=(CO.out 2 qA).2;have g3:=(CO.out 3 qA).2;clear o1 o2;rcases Int.lt_or_le (S k) 0 with hneg|hneg
    ·exact qCu
    ·have hbig:65535<S k:=by omega
     exact qCu
  ·obtain rfl:k=4:=by omega
   have hokt:ok=true:=HO.out.1 hs;subst hokt;have o0:=cO 0 qA;have o1:=cO 1 qA;have o2:=cO 2 qA;have o3:=cO 3 qA;have s0:=hs 0 qA;have s1:=hs 1 qA;have s2:=hs 2 qA;have s3:=hs 3 qA;simp only [show (0:Nat)<4 from by omega,show (1:Nat)<4 from by omega,show (2:Nat)<4 from by omega,show (3:Nat)<4 from by omega,if_true] at o0 o1 o2 o3;clear cA cB cO hs;have e0:=Nt s0.1;have e1:=Nt s1.1;have e2:=Nt s2.1;have e3:=Nt s3.1;go_wp2_with fail;refine bodyPost_ret (v:=.tuple #[Da (S 0).toNat (S 1).toNat (S 2).toNat (S 3).toNat,.bool true]) (by simp [*,results,Tryz.results100,go_sem]) rfl ⟨rfl,by go_grown⟩
theorem xU (w:World) (x y:Nat) (hx:x<65536) (hy:y<65536):Θ 346 #[.int .i64 x,.int .i64 y] w (fun e w'=>e=.returned (.int .i64 ((x:Int)-y))∧w=w'):=by
 go_enter Tryz.func346,Tryz.ntmps346;go_wp2_with fail;go_ret;exact ⟨rfl,rfl⟩
def Wz (a0 a1 a2 a3:Nat) (i:Nat):Nat:=match i with|0=>a0|1=>a1|2=>a2|_=>a3
theorem Un (w:World) (a0 a1 a2 a3 b0 b1 b2 b3:Nat) (x0:a0<65536) (x1:a1<65536) (x2:a2<65536) (x3:a3<65536) (y0:b0<65536) (y1:b1<65536) (y2:b2<65536) (y3:b3<65536) (ok:Bool) (hok:ok=(decide (b0≤a0)&&decide (b1≤a1)&&decide (b2≤a2)&&decide (b3≤a3))) :
  Θ 302 #[Da a0 a1 a2 a3,Da b0 b1 b2 b3] w (fun e w'=>e=.returned (.tuple #[if ok then Da (a0-b0:Nat) (a1-b1:Nat) (a2-b2:Nat) (a3-b3:Nat) else Da 0 0 0 0,.bool ok])∧Below w.heap.size w w'):=by
 have hA:∀i,i<4→Wz a0 a1 a2 a3 i<65536:=fun i hi=>by rcases (by omega:i=0∨i=1∨i=2∨i=3) with rfl|rfl|rfl|rfl<;>assumption
 have hB:∀i,i<4→Wz b0 b1 b2 b3 i<65536:=fun i hi=>by rcases (by omega:i=0∨i=1∨i=2∨i=3) with rfl|rfl|rfl|rfl<;>assumption
 have hE:=fun W=>Abt W 346 (Jf Tryz.func346 qC rfl) (Wz a0 a1 a2 a3) (Wz b0 b1 b2 b3) (fun i=>(Wz a0 a1 a2 a3 i:Int)-Wz b0 b1 b2 b3 i) (fun W i hi=>xU W _ _ (hA i hi) (hB i hi)) hA hB (fun i hi=>by have h1:=hA i hi;have h2:=hB i hi;exact ⟨by show (-65536:Int)<_;omega,by show _<(131072:Int);omega⟩) ok (by
  subst hok;simp only [Bool.and_eq_true,decide_eq_true_eq];constructor
  ·intro h;have h0:=(h 0 qA).1;have h1:=(h 1 qA).1;have h2:=(h 2 qA).1;have h3:=(h 3 qA).1;simp only [Wz] at h0 h1 h2 h3;omega
  ·rintro ⟨⟨⟨h0,h1⟩,h2⟩,h3⟩ i hi;have h4:=hA i hi;rcases (by omega:i=0∨i=1∨i=2∨i=3) with rfl|rfl|rfl|rfl<;>simp only [Wz] at h4 ⊢<;>omega)
 have e:∀x y:Nat,((x:Int)-y).toNat=x-y:=fun x y=>by omega
 simp only [Wz,e] at hE;have HE:=Ae hE;clear hE hA hB hok e;go_enter Tryz.func302,Tryz.ntmps302;go_wp2_with fail;refine (HE.out _).mono ?_;rintro e w1 ⟨rfl,hb1⟩;have R1:B4 w1 (w.heap.size+1+1) (.int .u16 0) (.int .u16 0) (.int .u16 0) (.int .u16 0):=B4.keep (by constructor<;>simp [go_sem]) hb1;have HB1:=zI w hb1;have hk:=R1.lt;clear hb1;obtain ⟨r0,r1,r2,r3,rf0,rf1,rf2,rf3⟩:=R1
 cases ok with
 | true =>
  rw [if_pos rfl];go_wp2_with fail;exact bodyPost_ret (v:=.tuple #[Da (a0-b0:Nat) (a1-b1:Nat) (a2-b2:Nat) (a3-b3:Nat),.bool true]) (by simp [*,results,Tryz.results302,go_sem]) rfl ⟨rfl,by go_grown⟩
 | false =>
  rw [if_neg qG];go_wp2_with fail;exact bodyPost_ret (v:=.tuple #[Da 0 0 0 0,.bool false]) (by simp [*,results,Tryz.results302,go_sem]) rfl ⟨rfl,by go_grown⟩
structure N4 (w:World) (b:Nat) (t:Tm) (v o:Value):Prop where
 c0:w.cell? ⟨b,0,none⟩=some (.bool t.g1)
 c1:w.cell? ⟨b,1,none⟩=some (.slice t.a1 t.n1 t.c1)
 c2:w.cell? ⟨b,2,none⟩=some (.bool t.g2)
 c3:w.cell? ⟨b,3,none⟩=some (.slice t.a2 t.n2 t.c2)
 c4:w.cell? ⟨b,4,none⟩=some (.int .u16 t.m0)
 c5:w.cell? ⟨b,5,none⟩=some (.int .u16 t.m1)
 c6:w.cell? ⟨b,6,none⟩=some (.int .u16 t.m2)
 c7:w.cell? ⟨b,7,none⟩=some (.int .u16 t.m3)
 c8:w.cell? ⟨b,8,none⟩=some v
 c9:w.cell? ⟨b,9,none⟩=some o
 f9:w.frozen? ⟨b,9,none⟩=false
theorem N4.lt {w:World} {b:Nat} {t:Tm} {v o:Value} (h:N4 w b t v o):b<w.heap.size:=Aa _ _ h.c0
theorem N4.keep {w w':World} {b:Nat} {t:Tm} {v o:Value} (h:N4 w b t v o) (hb:Below w.heap.size w w'):N4 w' b t v o :=
 ⟨Bc hb h.c0,Bc hb h.c1,Bc hb h.c2,Bc hb h.c3,Bc hb h.c4,Bc hb h.c5,Bc hb h.c6,Bc hb h.c7,Bc hb h.c8,Bc hb h.c9,(hb.frozen h.lt).trans h.f9⟩
theorem Bd.one {w:World} {B:Nat} {x:PT} (t:Tm) (h:Ey t x) (hr:Ei w t) (hB:B≤w.heap.size) (k1:Nw B t.n1 t.a1) (k2:Nw B t.n2 t.a2) :
  Bd (w.alloc (.cells #[.bool t.g1,.slice t.a1 t.n1 t.c1,.bool t.g2,.slice t.a2 t.n2 t.c2,.int .u16 t.m0,.int .u16 t.m1,.int .u16 t.m2,.int .u16 t.m3] 79)) B (some ⟨w.heap.size,0,none⟩) 1 1 [x]:=by
 have T:=Dh.new w t;refine ⟨rfl,.inr fun y hy=>by cases hy;exact hB,fun h=>(by cases h),fun _=>t,⟨Ad _,by omega,by omega,fun i hi=>⟨hr.top.alloc _,hr.low.alloc _,hr.s0,hr.s1,hr.s2,hr.s3⟩,.inr ⟨_,0,rfl,fun i hi=>?_⟩⟩,fun i y hy=>?_⟩
 ·obtain rfl:i=0:=by omega
  exact ⟨T.c0,T.c1,T.c2,T.c3,T.c4,T.c5,T.c6,T.c7⟩
 ·match i,hy with
  | 0,hy=>simp at hy;subst hy;exact ⟨h,k1,k2⟩
  | i+1,hy=>simp at hy
def BoxM (w wc:World) (v:Value) (a0 a1 a2 a3:Nat):Prop:=∃b,v=.pointer (some ⟨b,0,none⟩)∧wc.cell? ⟨b,0,none⟩=some (.int .u16 a0)∧wc.cell? ⟨b,1,none⟩=some (.int .u16 a1)∧wc.cell? ⟨b,2,none⟩=some (.int .u16 a2)∧wc.cell? ⟨b,3,none⟩=some (.int .u16 a3)∧Below w.heap.size w wc
def wL (w:World) (x:PT) (e:Ending) (w':World):Prop:=∃a c,e=.returned (.tuple #[.slice a 1 c,.bool true])∧Bd w' w.heap.size a 1 c [x]∧Below w.heap.size w w'
theorem lZ (w:World) (b:Nat) (u:Tm) (v o:Value) (hD:N4 w b u v o) (y:PT) (hu:Ey u y) (hru:Ei w u) (hcy:CW y.2) (hy0:y.2.1≠0) (t:Tm) (x:PT) (ht:Ey t x) (hrt:Ei w t) (hcx:CW x.2)
  (q1:t.n1≤1000000) (q2:t.n2≤1000000) (q3:u.n1≤1000000) (q4:u.n2≤1000000) (hin:inM x.1 y.1=true) :
  Θ 246 #[.pointer (some ⟨b,0,none⟩),t.val] w (wL w (x.1-y.1,Hi x.2 y.2)):=by
 have hbl:=hD.lt;have DK:=hD;obtain ⟨d0,d1,d2,d3,d4,d5,d6,d7,d8,d9,-⟩:=hD;have ex:=Ec hrt.s1 hrt.s2 hrt.s3 hrt.s0;have ey:=Ec hru.s1 hru.s2 hru.s3 hru.s0;rw [ht.key] at ex;rw [hu.key] at ey;unfold inM at hin;rw [ex.1,ex.2.1,ex.2.2.1,ex.2.2.2,ey.1,ey.2.1,ey.2.2.1,ey.2.2.2] at hin;have HI:=Ae hin;have hfx:=ht.frac hrt hcx;have hfy:=hu.frac hru hcy;have HS:=Ae (Ay hrt hru);have HK:=Ae (Ay ht hu);have HB:=Ac w.heap.size w;have hne:¬b=w.heap.size:=by omega
 clear ex ey hin ht hrt hu hru;go_enter Tryz.func246,Tryz.ntmps246;go_wp2_with fail;refine Cc ?_;intro w1 hw1;have B1:Below w.heap.size w w1:=by rw [hw1];go_grown
 have T1:Dh w1 w.heap.size t:=by rw [hw1];exact Dh.new w t
 have D1:=DK.keep B1;have HB1:=Ac w1.heap.size w1;have TL:=T1.lt;have DL:=D1.lt;clear hw1 HB d0 d1 d2 d3 d4 d5 d6 d7 d8 d9;generalize hT:w.heap.size=T at *;have HTT:=Ae hT;clear hT;have T1k:=T1;have D1k:=D1;obtain ⟨-,-,-,-,t4,t5,t6,t7,-,-,-,-,-,-,-,-⟩:=T1;obtain ⟨-,-,-,-,d4,d5,d6,d7,-,-,-⟩:=D1;have m1:¬w1.heap.size=T:=by omega
 have m2:¬T=w1.heap.size:=by omega
 have m3:¬w1.heap.size=b:=by omega
 have m4:¬b=w1.heap.size:=by omega
 go_cut [6,7] (fun v6 v7 wc=>v7=.bool true∧BoxM w1 wc v6 (t.m0-u.m0) (t.m1-u.m1) (t.m2-u.m2) (t.m3-u.m3))
 case first =>
  go_region_held3 (fun W=>W.cell? ⟨T,4,none⟩=some (.int .u16 t.m0)∧W.cell? ⟨T,5,none⟩=some (.int .u16 t.m1)∧W.cell? ⟨T,6,none⟩=some (.int .u16 t.m2)∧W.cell? ⟨T,7,none⟩=some (.int .u16 t.m3)∧W.cell? ⟨b,4,none⟩=some (.int .u16 u.m0)∧W.cell? ⟨b,5,none⟩=some (.int .u16 u.m1)∧W.cell? ⟨b,6,none⟩=some (.int .u16 u.m2)∧W.cell? ⟨b,7,none⟩=some (.int .u16 u.m3)) (first|((try dsimp only);(repeat' apply Ay);all_goals (first|(with_reducible assumption)|(go_keep;done)|(simp [*,go_sem];done)))) (first
   | (go_at_call 302;(with_reducible refine (Un _ t.m0 t.m1 t.m2 t.m3 u.m0 u.m1 u.m2 u.m3 HS.out.1.s0 HS.out.1.s1 HS.out.1.s2 HS.out.1.s3 HS.out.2.s0 HS.out.2.s1 HS.out.2.s2 HS.out.2.s3 true HI.out.symm).mono ?_);rintro e w2 ⟨rfl,hb⟩;rw [if_pos rfl];obtain ⟨hc,hf⟩:=Bl hb;have hb2:=zI w1 hb;have hz:=hb.size;(try simp only [Aj,Ak] at hz);(replace t4:=Bc hb2 t4;replace t5:=Bc hb2 t5;replace t6:=Bc hb2 t6;replace t7:=Bc hb2 t7;replace d4:=Bc hb2 d4;replace d5:=Bc hb2 d5;replace d6:=Bc hb2 d6;replace d7:=Bc hb2 d7);(try have k1:w1.heap.size<w2.heap.size:=by omega)))
  all_goals
   go_wp2_with fail;go_meet
   case rel =>
    refine ⟨rfl,_,rfl,?_,?_,?_,?_,?_⟩
    ·simp [*,go_sem]
    ·simp [*,go_sem]
    ·simp [*,go_sem]
    ·simp [*,go_sem]
    ·go_grown
 case rest =>
  obtain ⟨rfl,M,rfl,k0,k1,k2,k3,HC⟩:=hcut;have TC:=T1k.keep HC;have DC:=D1k.keep HC;clear t4 t5 t6 t7 d4 d5 d6 d7 T1k D1k m1 m2 m3 m4;have HWC:=B1.trans (HC.mono (Nat.le_of_lt TL));obtain ⟨t0,t1,t2,t3,-,-,-,-,-,-,-,-,-,-,-,-⟩:=TC;obtain ⟨d0,d1,d2,d3,-,-,-,-,-,-,-⟩:=DC;go_wp2_with fail;have hfxC:=hfx.keep (by rw [HTT.out];exact HWC);have hfyC:=hfy.keep (by rw [HTT.out];exact HWC);have HB2:=Ac wc.heap.size wc;have hTc:T<wc.heap.size:=Aa _ _ t0;have hbc:b<wc.heap.size:=Aa _ _ d0;have m1:¬wc.heap.size=T:=by omega
  have m2:¬T=wc.heap.size:=by omega
  have m3:¬wc.heap.size=b:=by omega
  have m4:¬b=wc.heap.size:=by omega
  go_cut [8] (fun v8 wd=>yK wc wd v8 (Hi x.2 y.2))
  case first =>
   go_region_held3 (fun W=>W.cell? ⟨T,0,none⟩=some (.bool t.g1)∧W.cell? ⟨T,1,none⟩=some (.slice t.a1 t.n1 t.c1)∧W.cell? ⟨T,2,none⟩=some (.bool t.g2)∧W.cell? ⟨T,3,none⟩=some (.slice t.a2 t.n2 t.c2)∧W.cell? ⟨b,0,none⟩=some (.bool u.g1)∧W.cell? ⟨b,1,none⟩=some (.slice u.a1 u.n1 u.c1)∧W.cell? ⟨b,2,none⟩=some (.bool u.g2)∧W.cell? ⟨b,3,none⟩=some (.slice u.a2 u.n2 u.c2)) (first|((try dsimp only);(repeat' apply Ay);all_goals (first|(with_reducible assumption)|(go_keep;done)|(simp [*,go_sem];done)))) (first
    | (go_at_call 17;(with_reducible refine (oD _ _ _ _ _ x.2 _ _ _ _ (hfxC.keep qF) _ _ _ _ y.2 _ _ _ _ (hfyC.keep qF) hy0 qA qA qA qA).mono ?_);rintro e w2 ⟨g5,a5,n5,c5,g6,a6,n6,c6,rfl,hres,hf5,hf6,hb⟩;obtain ⟨hc,hf⟩:=Bl hb;have hb2:=zI wc hb;have hz:=hb.size;(try simp only [Aj,Ak] at hz);(replace t0:=Bc hb2 t0;replace t1:=Bc hb2 t1;replace t2:=Bc hb2 t2;replace t3:=Bc hb2 t3;replace d0:=Bc hb2 d0;replace d1:=Bc hb2 d1;replace d2:=Bc hb2 d2;replace d3:=Bc hb2 d3);(try have k9:wc.heap.size<w2.heap.size:=by omega)))
   all_goals
    exact qBf
  case rest =>
   obtain ⟨C,g5,a5,n5,c5,g6,a6,n6,c6,rfl,z0,z1,z2,z3,hres,hw5,hw6,HD⟩:=hcut;replace k0:=Bc HD k0;replace k1:=Bc HD k1;replace k2:=Bc HD k2;replace k3:=Bc HD k3;clear m1 m2 m3 m4 t0 t1 t2 t3 d0 d1 d2 d3;have HWD:=HWC.trans (HD.mono (Nat.le_of_lt hTc));have HTW:w.heap.size≤wc.heap.size:=HWD.size;have hTc2:w.heap.size≤_:=Nat.le_of_lt (HTT.out.symm▸hTc);go_wp2_with fail;refine bodyPost_ret (v:=.tuple #[.slice (some ⟨wc.heap.size,0,none⟩) 1 1,.bool true]) (by simp [*,results,Tryz.results246,go_sem]) rfl ?_;have hle:=HI.out;simp only [Bool.and_eq_true,decide_eq_true_eq] at hle;have e0:=HS.out.1.s0;have e1:=HS.out.1.s1;have e2:=HS.out.1.s2;have e3:=HS.out.1.s3;refine ⟨_,_,rfl,Bd.one ⟨g5,a5,n5,c5,dg (Hi x.2 y.2).1.natAbs,g6,a6,n6,c6,dg (Hi x.2 y.2).2.natAbs,t.m0-u.m0,t.m1-u.m1,t.m2-u.m2,t.m3-u.m3⟩ ⟨hres.top.neg,rfl,hres.low.neg,rfl,?_⟩ ⟨hres.top.rd,hres.low.rd,by show t.m0-u.m0<65536;omega,by show t.m1-u.m1<65536;omega,by show t.m2-u.m2<65536;omega,by show t.m3-u.m3<65536;omega⟩ HTW (Nw.mono hw5 hTc2) (Nw.mono hw6 hTc2),(by rw [HTT.out];exact HWD.alloc (HTT.out▸HTW) _)⟩;show Cg (t.m0-u.m0) (t.m1-u.m1) (t.m2-u.m2) (t.m3-u.m3)=x.1-y.1;rw [←HK.out.1.key,←HK.out.2.key];unfold Cg;omega
theorem tS (w:World) (b:Nat) (u:Tm) (v o:Value) (hD:N4 w b u v o) (y:PT) (hu:Ey u y) (hru:Ei w u) (t:Tm) (x:PT) (ht:Ey t x) (hrt:Ei w t) (hin:inM x.1 y.1=false) :
  Θ 246 #[.pointer (some ⟨b,0,none⟩),t.val] w (fun e w'=>e=.returned (.tuple #[.slice none 0 0,.bool false])∧Below w.heap.size w w'):=by
 have hbl:=hD.lt;have DK:=hD;obtain ⟨d0,d1,d2,d3,d4,d5,d6,d7,d8,d9,-⟩:=hD;have ex:=Ec hrt.s1 hrt.s2 hrt.s3 hrt.s0;have ey:=Ec hru.s1 hru.s2 hru.s3 hru.s0;rw [ht.key] at ex;rw [hu.key] at ey;unfold inM at hin;rw [ex.1,ex.2.1,ex.2.2.1,ex.2.2.2,ey.1,ey.2.1,ey.2.2.1,ey.2.2.2] at hin;have HI:=Ae hin;have HS:=Ae (Ay hrt hru);have HK:=Ae (Ay ht hu);have HB:=Ac w.heap.size w;have hne:¬b=w.heap.size:=by omega
 clear ex ey hin ht hrt hu hru;go_enter Tryz.func246,Tryz.ntmps246;go_wp2_with fail;refine Cc ?_;intro w1 hw1;have B1:Below w.heap.size w w1:=by rw [hw1];go_grown
 have T1:Dh w1 w.heap.size t:=by rw [hw1];exact Dh.new w t
 have D1:=DK.keep B1;have HB1:=Ac w1.heap.size w1;have TL:=T1.lt;have DL:=D1.lt;clear hw1 HB d0 d1 d2 d3 d4 d5 d6 d7 d8 d9;generalize hT:w.heap.size=T at *;have HTT:=Ae hT;clear hT;have T1k:=T1;have D1k:=D1;obtain ⟨-,-,-,-,t4,t5,t6,t7,-,-,-,-,-,-,-,-⟩:=T1;obtain ⟨-,-,-,-,d4,d5,d6,d7,-,-,-⟩:=D1;have m1:¬w1.heap.size=T:=by omega
 have m2:¬T=w1.heap.size:=by omega
 have m3:¬w1.heap.size=b:=by omega
 have m4:¬b=w1.heap.size:=by omega
 go_cut [6,7] (fun v6 v7 wc=>v7=.bool false∧Below w1.heap.size w1 wc)
 case first =>
  go_region_held3 (fun W=>W.cell? ⟨T,4,none⟩=some (.int .u16 t.m0)∧W.cell? ⟨T,5,none⟩=some (.int .u16 t.m1)∧W.cell? ⟨T,6,none⟩=some (.int .u16 t.m2)∧W.cell? ⟨T,7,none⟩=some (.int .u16 t.m3)∧W.cell? ⟨b,4,none⟩=some (.int .u16 u.m0)∧W.cell? ⟨b,5,none⟩=some (.int .u16 u.m1)∧W.cell? ⟨b,6,none⟩=some (.int .u16 u.m2)∧W.cell? ⟨b,7,none⟩=some (.int .u16 u.m3)) (first|((try dsimp only);(repeat' apply Ay);all_goals (first|(with_reducible assumption)|(go_keep;done)|(simp [*,go_sem];done)))) (first
   | (go_at_call 302;(with_reducible refine (Un _ t.m0 t.m1 t.m2 t.m3 u.m0 u.m1 u.m2 u.m3 HS.out.1.s0 HS.out.1.s1 HS.out.1.s2 HS.out.1.s3 HS.out.2.s0 HS.out.2.s1 HS.out.2.s2 HS.out.2.s3 false HI.out.symm).mono ?_);rintro e w2 ⟨rfl,hb⟩;rw [if_neg qG];obtain ⟨hc,hf⟩:=Bl hb;have hb2:=zI w1 hb;have hz:=hb.size;(try simp only [Aj,Ak] at hz);(replace t4:=Bc hb2 t4;replace t5:=Bc hb2 t5;replace t6:=Bc hb2 t6;replace t7:=Bc hb2 t7;replace d4:=Bc hb2 d4;replace d5:=Bc hb2 d5;replace d6:=Bc hb2 d6;replace d7:=Bc hb2 d7);(try have k1:w1.heap.size<w2.heap.size:=by omega)))
  all_goals
   go_wp2_with fail;go_meet
   case rel =>
    exact ⟨rfl,by go_grown⟩
 case rest =>
  obtain ⟨rfl,HC⟩:=hcut;have HWC:=B1.trans (HC.mono (Nat.le_of_lt TL));go_wp2_with fail;exact bodyPost_ret (v:=.tuple #[.slice none 0 0,.bool false]) (by simp [results,Tryz.results246,go_sem]) rfl ⟨rfl,by rw [HTT.out];exact HWC⟩
theorem zU:(Tryz.prog.info? 288).map (fun i=>(i.zero,i.size,i.bytes))=some (some (.pointer none),1,8):=by kernel_rfl
def Aab (w:World) (v:Value) (x:PT) (e:Ending) (w':World):Prop :=
 ∃g cap D t,e=.returned (.tuple #[.slice (some ⟨g,0,none⟩) 1 cap,.int .i64 0])∧w'.cell? ⟨g,0,none⟩=some (.pointer (some ⟨D,0,none⟩))∧N4 w' D t v (.slice none 0 0)∧Ey t x∧Ei w' t∧Ap D t.n1 t.a1∧Ap D t.n2 t.a2∧w.heap.size≤D∧w.heap.size≤g∧D≠g∧Below w.heap.size w w'
theorem dP (w:World) (L:Nat) (B n c:Nat) (a:Γ) (x:PT) (l:Δ) (hL:w.cell? ⟨L,0,none⟩=some (.slice a n c)) (h:Bd w B a n c (x::l)) (hl:Sm (x::l)) :
  Θ 244 #[.int .u8 0,.slice (some ⟨L,0,none⟩) 1 1] w (Aab w (.slice a n c) x):=by
 obtain ⟨i0,hi,hz0,hz1,hz2⟩:=info_parts zU;have HB:=Ac w.heap.size w;go_enter Tryz.func244,Tryz.ntmps244;go_wp2_with fail;refine wp_loop_rounds 2 ?_;rw [rounds_succ];go_wp2_with fail;refine (oF (h.keep qF) hl).mono ?_;rintro e w1 ⟨t,rfl,ht,hrt,hf1,hf2,hb1⟩;have HB1:=zI w hb1;clear hb1;go_wp2_with fail;refine Cc ?_;intro w2 hw2;have hb2:Below w1.heap.size w1 w2:=by rw [hw2];go_grown
 have hcell:w2.cell? ⟨w1.heap.size+1+1+1,0,none⟩=some (.pointer (some ⟨w1.heap.size+1,0,none⟩)):=by rw [hw2];simp [go_sem,Array.getElem?_append]
 have hD:N4 w2 (w1.heap.size+1) t (.slice a n c) (.slice none 0 0):=by rw [hw2];constructor<;>simp [go_sem]
 have hrt2:=hrt.keep hb2;have HB2:=HB1.trans (hb2.mono HB1.size);have hs1:=HB1.size;generalize (Question.appendCap 1 0 288).cut (w1.tape w1.drawn (Question.appendCap 1 0 288))=cap;clear hw2 HB hb2;go_wp2_with fail;go_ret2;exact ⟨_,_,_,t,rfl,hcell,hD,ht,hrt2,hrt.top.ap_of qA,hrt.low.ap_of qA,by omega,by omega,by omega,HB2⟩
section
variable {w:World} {L B n c:Nat} {a:Γ} {l:Δ}
theorem On (h:Bd w B a n c l) (hl:Sm l):Θ 41 #[.slice a n c] w fun e w'=>e=.returned (.bool true)∧Below w.heap.size w w':=by
 obtain ⟨p,hp,hpx⟩:=h.ts;have hok:=h.pok hl.pw hp hpx;exact E4 w a n c p hp (fun k hk=>by have:=h.few hl.few hp hpx k hk;omega) true ⟨fun _=>rfl,fun _=>hok⟩
theorem Zw (h:Bd w B a n c l) (hl:Sm l):Θ 243 #[.slice a n c] w fun e w'=>e=.returned (.bool false)∧Below w.heap.size w w':=by
 have HB:=Ac w.heap.size w;go_enter Tryz.func243,Tryz.ntmps243;go_wp2_with fail;refine (On (h.keep qF) hl).mono ?_;exact qCl
theorem wV (hL:w.cell? ⟨L,0,none⟩=some (.slice a n c)) (h:Bd w B a n c l) (hl:Sm l) :
  Θ 299 #[.slice (some ⟨L,0,none⟩) 1 1,.func (.func 243) #[] #[]] w fun e w'=>e=.returned (.int .i64 (-1))∧Below w.heap.size w w':=by
 have HB:=Ac w.heap.size w;go_enter Tryz.func299,Tryz.ntmps299;go_wp2_with fail;refine wp_loop_rounds 2 ?_;rw [rounds_succ];go_wp2_with fail;refine (Zw (h.keep qF) hl).mono ?_;rintro e w1 ⟨rfl,hb1⟩;go_wp2_with fail;(try rw [rounds_succ]);go_wp2_with fail;go_ret;exact ⟨rfl,hb1⟩
theorem Zv (hL:w.cell? ⟨L,0,none⟩=some (.slice a n c)) (h:Bd w B a n c l) (hl:Sm l) :
  Θ 242 #[.slice (some ⟨L,0,none⟩) 1 1,.func (.func 243) #[] #[]] w fun e w'=>e=.returned (.bool false)∧Below w.heap.size w w':=by
 have HB:=Ac w.heap.size w;go_enter Tryz.func242,Tryz.ntmps242;go_wp2_with fail;refine (wV hL h hl).mono ?_;exact qCl
end
end Go.Proofs.YtnnhcbeiogaknaaGreatDoor
end
