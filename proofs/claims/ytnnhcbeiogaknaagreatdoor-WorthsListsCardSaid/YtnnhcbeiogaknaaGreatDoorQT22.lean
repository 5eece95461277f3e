/- Package monos: Mul. -/
import Derived.Test.YtnnhcbeiogaknaaGreatDoorQT17
set_option linter.unusedSimpArgs false
set_option linter.unusedVariables false
set_option maxRecDepth 100000
set_option maxHeartbeats 4000000
section
namespace Go.Proofs.YtnnhcbeiogaknaaGreatDoor
open Go.RowKit
theorem Kd (w:World) (x y s:Nat) (hs:s=x+y) (hx:x<65536) (hy:y<65536):Calls Tryz.prog 101 #[.int .i64 x,.int .i64 y] w (fun e w'=>e=.returned (.int .i64 s)∧w=w'):=by
 have HS:=Ae hs;clear hs;go_enter Tryz.func101,Tryz.ntmps101;go_wp2_with fail;go_ret;exact ⟨by rw [HS.out];simp,rfl⟩
def Qa (k j s:Nat):Nat:=if j<k then s else 0
theorem vT (w:World) (a0 a1 a2 a3 b0 b1 b2 b3 s0 s1 s2 s3:Nat) (z0:s0=a0+b0) (z1:s1=a1+b1) (z2:s2=a2+b2) (z3:s3=a3+b3) (h0:s0<65536) (h1:s1<65536) (h2:s2<65536) (h3:s3<65536) :
  Calls Tryz.prog 100 #[C6 a0 a1 a2 a3,C6 b0 b1 b2 b3,.func (.func 101) #[] #[]] w (fun e w'=>e=.returned (.tuple #[C6 s0 s1 s2 s3,.bool true])∧Below w.heap.size w w'):=by
 have Z0:=Ae z0;have Z1:=Ae z1;have Z2:=Ae z2;have Z3:=Ae z3;have wa0:IntKind.i64.wrap (a0:Int)=a0:=IntWalk.i64_in _ qA;have wb0:IntKind.i64.wrap (b0:Int)=b0:=IntWalk.i64_in _ qA;have wa1:IntKind.i64.wrap (a1:Int)=a1:=IntWalk.i64_in _ qA;have wb1:IntKind.i64.wrap (b1:Int)=b1:=IntWalk.i64_in _ qA;have wa2:IntKind.i64.wrap (a2:Int)=a2:=IntWalk.i64_in _ qA;have wb2:IntKind.i64.wrap (b2:Int)=b2:=IntWalk.i64_in _ qA;have wa3:IntKind.i64.wrap (a3:Int)=a3:=IntWalk.i64_in _ qA;have wb3:IntKind.i64.wrap (b3:Int)=b3:=IntWalk.i64_in _ qA;clear z0 z1 z2 z3;go_enter Tryz.func100,Tryz.ntmps100;go_wp2_with fail;go_loopw [10] (fun v wr=>∃k:Nat,k≤4∧v=.int .i64 k∧wr.cell? ⟨w.heap.size,0,none⟩=some (.int .u16 (a0:Nat))∧wr.cell? ⟨w.heap.size,1,none⟩=some (.int .u16 (a1:Nat))∧wr.cell? ⟨w.heap.size,2,none⟩=some (.int .u16 (a2:Nat))∧wr.cell? ⟨w.heap.size,3,none⟩=some (.int .u16 (a3:Nat))∧wr.cell? ⟨w.heap.size+1,0,none⟩=some (.int .u16 (b0:Nat))∧wr.cell? ⟨w.heap.size+1,1,none⟩=some (.int .u16 (b1:Nat))∧wr.cell? ⟨w.heap.size+1,2,none⟩=some (.int .u16 (b2:Nat))∧wr.cell? ⟨w.heap.size+1,3,none⟩=some (.int .u16 (b3:Nat))∧wr.cell? ⟨w.heap.size+1+1,0,none⟩=some (.int .u16 (Qa k 0 s0:Nat))∧wr.cell? ⟨w.heap.size+1+1,1,none⟩=some (.int .u16 (Qa k 1 s1:Nat))∧wr.cell? ⟨w.heap.size+1+1,2,none⟩=some (.int .u16 (Qa k 2 s2:Nat))∧wr.cell? ⟨w.heap.size+1+1,3,none⟩=some (.int .u16 (Qa k 3 s3:Nat))∧wr.frozen? ⟨w.heap.size+1+1,0,none⟩=false∧wr.frozen? ⟨w.heap.size+1+1,1,none⟩=false∧wr.frozen? ⟨w.heap.size+1+1,2,none⟩=false∧wr.frozen? ⟨w.heap.size+1+1,3,none⟩=false∧w.heap.size+1+1<wr.heap.size∧Below w.heap.size w wr) (fun v _=>4-(intOf v).toNat)
 case atStart=>exact ⟨0,by omega,rfl,by simp [go_sem],by simp [go_sem],by simp [go_sem],by simp [go_sem],by simp [go_sem],by simp [go_sem],by simp [go_sem],by simp [go_sem],by simp [go_sem,Qa],by simp [go_sem,Qa],by simp [go_sem,Qa],by simp [go_sem,Qa],by simp [go_sem],by simp [go_sem],by simp [go_sem],by simp [go_sem],by simp,by go_grown⟩
 case round =>
  obtain ⟨k,hk,rfl,A0,A1,A2,A3,B0,B1,B2,B3,O0,O1,O2,O3,F0,F1,F2,F3,hsz,HBr⟩:=hrel;rcases (by omega:k=0∨k=1∨k=2∨k=3∨k=4) with rfl|rfl|rfl|rfl|rfl
  ·
   change wr.cell? ⟨w.heap.size+1+1,0,none⟩=some (.int .u16 ((0:Nat):Int)) at O0
   change wr.cell? ⟨w.heap.size+1+1,1,none⟩=some (.int .u16 ((0:Nat):Int)) at O1
   change wr.cell? ⟨w.heap.size+1+1,2,none⟩=some (.int .u16 ((0:Nat):Int)) at O2
   change wr.cell? ⟨w.heap.size+1+1,3,none⟩=some (.int .u16 ((0:Nat):Int)) at O3
   go_wp2_with fail;go_quiet (((first|(go_at_call 101;exact Fu (Kd _ a0 b0 s0 Z0.out (by have:=Z0.out;omega) (by have:=Z0.out;omega)))|(go_at_call 101;exact Ey (Kd _ a0 b0 s0 Z0.out (by have:=Z0.out;omega) (by have:=Z0.out;omega))))));have HD:=Bu nq HBr;go_wp2_with fail;go_roundw
   case rel =>
    refine ⟨1,by omega,by first|rfl|go_num,?_,?_,?_,?_,?_,?_,?_,?_,?_,?_,?_,?_,?_,?_,?_,?_,by simpa using hsz,by go_grown⟩;all_goals first|assumption|(simp [*,go_sem,Qa];done)
   case measure=>simp [intOf]
  ·
   change wr.cell? ⟨w.heap.size+1+1,0,none⟩=some (.int .u16 ((s0:Nat):Int)) at O0
   change wr.cell? ⟨w.heap.size+1+1,1,none⟩=some (.int .u16 ((0:Nat):Int)) at O1
   change wr.cell? ⟨w.heap.size+1+1,2,none⟩=some (.int .u16 ((0:Nat):Int)) at O2
   change wr.cell? ⟨w.heap.size+1+1,3,none⟩=some (.int .u16 ((0:Nat):Int)) at O3
   go_wp2_with fail;go_quiet (((first|(go_at_call 101;exact Fu (Kd _ a1 b1 s1 Z1.out (by have:=Z1.out;omega) (by have:=Z1.out;omega)))|(go_at_call 101;exact Ey (Kd _ a1 b1 s1 Z1.out (by have:=Z1.out;omega) (by have:=Z1.out;omega))))));have HD:=Bu nq HBr;go_wp2_with fail;go_roundw
   case rel =>
    refine ⟨2,by omega,by first|rfl|go_num,?_,?_,?_,?_,?_,?_,?_,?_,?_,?_,?_,?_,?_,?_,?_,?_,by simpa using hsz,by go_grown⟩;all_goals first|assumption|(simp [*,go_sem,Qa];done)
   case measure=>simp [intOf]
  ·
   change wr.cell? ⟨w.heap.size+1+1,0,none⟩=some (.int .u16 ((s0:Nat):Int)) at O0
   change wr.cell? ⟨w.heap.size+1+1,1,none⟩=some (.int .u16 ((s1:Nat):Int)) at O1
   change wr.cell? ⟨w.heap.size+1+1,2,none⟩=some (.int .u16 ((0:Nat):Int)) at O2
   change wr.cell? ⟨w.heap.size+1+1,3,none⟩=some (.int .u16 ((0:Nat):Int)) at O3
   go_wp2_with fail;go_quiet (((first|(go_at_call 101;exact Fu (Kd _ a2 b2 s2 Z2.out (by have:=Z2.out;omega) (by have:=Z2.out;omega)))|(go_at_call 101;exact Ey (Kd _ a2 b2 s2 Z2.out (by have:=Z2.out;omega) (by have:=Z2.out;omega))))));have HD:=Bu nq HBr;go_wp2_with fail;go_roundw
   case rel =>
    refine ⟨3,by omega,by first|rfl|go_num,?_,?_,?_,?_,?_,?_,?_,?_,?_,?_,?_,?_,?_,?_,?_,?_,by simpa using hsz,by go_grown⟩;all_goals first|assumption|(simp [*,go_sem,Qa];done)
   case measure=>simp [intOf]
  ·
   change wr.cell? ⟨w.heap.size+1+1,0,none⟩=some (.int .u16 ((s0:Nat):Int)) at O0
   change wr.cell? ⟨w.heap.size+1+1,1,none⟩=some (.int .u16 ((s1:Nat):Int)) at O1
   change wr.cell? ⟨w.heap.size+1+1,2,none⟩=some (.int .u16 ((s2:Nat):Int)) at O2
   change wr.cell? ⟨w.heap.size+1+1,3,none⟩=some (.int .u16 ((0:Nat):Int)) at O3
   go_wp2_with fail;go_quiet (((first|(go_at_call 101;exact Fu (Kd _ a3 b3 s3 Z3.out (by have:=Z3.out;omega) (by have:=Z3.out;omega)))|(go_at_call 101;exact Ey (Kd _ a3 b3 s3 Z3.out (by have:=Z3.out;omega) (by have:=Z3.out;omega))))));have HD:=Bu nq HBr;go_wp2_with fail;go_roundw
   case rel =>
    refine ⟨4,by omega,by first|rfl|go_num,?_,?_,?_,?_,?_,?_,?_,?_,?_,?_,?_,?_,?_,?_,?_,?_,by simpa using hsz,by go_grown⟩;all_goals first|assumption|(simp [*,go_sem,Qa];done)
   case measure=>simp [intOf]
  ·
   change wr.cell? ⟨w.heap.size+1+1,0,none⟩=some (.int .u16 ((s0:Nat):Int)) at O0
   change wr.cell? ⟨w.heap.size+1+1,1,none⟩=some (.int .u16 ((s1:Nat):Int)) at O1
   change wr.cell? ⟨w.heap.size+1+1,2,none⟩=some (.int .u16 ((s2:Nat):Int)) at O2
   change wr.cell? ⟨w.heap.size+1+1,3,none⟩=some (.int .u16 ((s3:Nat):Int)) at O3
   go_wp2_with fail;refine bodyPost_ret (v:=.tuple #[C6 s0 s1 s2 s3,.bool true]) (by simp [*,results,Tryz.results100,go_sem]) rfl ⟨rfl,by go_grown⟩
theorem gT (w:World) (a0 a1 a2 a3 b0 b1 b2 b3 s0 s1 s2 s3:Nat) (z0:s0=a0+b0) (z1:s1=a1+b1) (z2:s2=a2+b2) (z3:s3=a3+b3) (h0:s0<65536) (h1:s1<65536) (h2:s2<65536) (h3:s3<65536) :
  Calls Tryz.prog 42 #[C6 a0 a1 a2 a3,C6 b0 b1 b2 b3] w (fun e w'=>e=.returned (.tuple #[C6 s0 s1 s2 s3,.int .i64 0])∧Below w.heap.size w w'):=by
 have hE:=fun W=>vT W a0 a1 a2 a3 b0 b1 b2 b3 s0 s1 s2 s3 z0 z1 z2 z3 h0 h1 h2 h3
 have HE:=Ae hE;clear hE z0 z1 z2 z3;go_enter Tryz.func42,Tryz.ntmps42;go_wp2_with fail;refine (HE.out _).mono ?_;rintro e w1 ⟨rfl,hb1⟩;obtain ⟨hc,hf⟩:=Bl hb1;have hz:=hb1.size;(try simp only [Aj,Ak] at hz);have s0_:w1.cell? ⟨w.heap.size+1+1,0,none⟩=some (.int .u16 0):=(hc _ _ qB).trans qL;have f0_:w1.frozen? ⟨w.heap.size+1+1,0,none⟩=false:=(hf _ _ qB).trans qL;have s1_:w1.cell? ⟨w.heap.size+1+1,1,none⟩=some (.int .u16 0):=(hc _ _ qB).trans qL;have f1_:w1.frozen? ⟨w.heap.size+1+1,1,none⟩=false:=(hf _ _ qB).trans qL;have s2_:w1.cell? ⟨w.heap.size+1+1,2,none⟩=some (.int .u16 0):=(hc _ _ qB).trans qL;have f2_:w1.frozen? ⟨w.heap.size+1+1,2,none⟩=false:=(hf _ _ qB).trans qL;have s3_:w1.cell? ⟨w.heap.size+1+1,3,none⟩=some (.int .u16 0):=(hc _ _ qB).trans qL;have f3_:w1.frozen? ⟨w.heap.size+1+1,3,none⟩=false:=(hf _ _ qB).trans qL;have B1:=zI w hb1;have hk:w.heap.size+1+1<w1.heap.size:=by omega
 clear hc hf hb1;go_wp2_with fail;refine bodyPost_ret (v:=.tuple #[C6 s0 s1 s2 s3,.int .i64 0]) (by simp [*,results,Tryz.results42,go_sem]) rfl ⟨rfl,by go_grown⟩
structure B4 (w:World) (b:Nat) (v0 v1 v2 v3:Value):Prop where
 c0:w.cell? ⟨b,0,none⟩=some v0
 c1:w.cell? ⟨b,1,none⟩=some v1
 c2:w.cell? ⟨b,2,none⟩=some v2
 c3:w.cell? ⟨b,3,none⟩=some v3
 f0:w.frozen? ⟨b,0,none⟩=false
 f1:w.frozen? ⟨b,1,none⟩=false
 f2:w.frozen? ⟨b,2,none⟩=false
 f3:w.frozen? ⟨b,3,none⟩=false
structure B1 (w:World) (b:Nat) (v:Value):Prop where
 c0:w.cell? ⟨b,0,none⟩=some v
 f0:w.frozen? ⟨b,0,none⟩=false
section
variable {w w':World} {b:Nat} {v v0 v1 v2 v3:Value}
theorem B4.lt (h:B4 w b v0 v1 v2 v3):b<w.heap.size:=Aa _ _ h.c0
theorem B1.lt (h:B1 w b v):b<w.heap.size:=Aa _ _ h.c0
theorem B4.keep (h:B4 w b v0 v1 v2 v3) (hb:Below w.heap.size w w'):B4 w' b v0 v1 v2 v3:=by
 have f:∀i,w.frozen? ⟨b,i,none⟩=false→w'.frozen? ⟨b,i,none⟩=false:=fun i e=>(hb.frozen h.lt).trans e
 exact ⟨Bb hb h.c0,Bb hb h.c1,Bb hb h.c2,Bb hb h.c3,f _ h.f0,f _ h.f1,f _ h.f2,f _ h.f3⟩
theorem B1.keep (h:B1 w b v) (hb:Below w.heap.size w w'):B1 w' b v:=⟨Bb hb h.c0,(hb.frozen h.lt).trans h.f0⟩
theorem B4.far (h:B4 w b v0 v1 v2 v3) (p:Addr) (u:Value) (hp:p.block≠b):B4 (w.setCell p u) b v0 v1 v2 v3 :=
 ⟨(A5 _ _ _ _ hp).trans h.c0,(A5 _ _ _ _ hp).trans h.c1,(A5 _ _ _ _ hp).trans h.c2,(A5 _ _ _ _ hp).trans h.c3,
  by rw [World.frozen?_setCell];exact h.f0,by rw [World.frozen?_setCell];exact h.f1,by rw [World.frozen?_setCell];exact h.f2,by rw [World.frozen?_setCell];exact h.f3⟩
theorem B1.row {row:Option Nat} (h:B1 w b v) (hg:w.grownBy w' row) (hr:some b≠row):B1 w' b v:=⟨hg.cell h.c0 hr,(hg.frozen_far _ h.lt hr).trans h.f0⟩
theorem Db.row {t:Tm} {row:Option Nat} (h:Db w b t) (hg:w.grownBy w' row) (hr:some b≠row):Db w' b t :=
 ⟨hg.cell h.c0 hr,hg.cell h.c1 hr,hg.cell h.c2 hr,hg.cell h.c3 hr,hg.cell h.c4 hr,hg.cell h.c5 hr,hg.cell h.c6 hr,hg.cell h.c7 hr,(hg.frozen_far _ h.lt hr).trans h.f0,(hg.frozen_far _ h.lt hr).trans h.f1,(hg.frozen_far _ h.lt hr).trans h.f2,(hg.frozen_far _ h.lt hr).trans h.f3,(hg.frozen_far _ h.lt hr).trans h.f4,(hg.frozen_far _ h.lt hr).trans h.f5,(hg.frozen_far _ h.lt hr).trans h.f6,(hg.frozen_far _ h.lt hr).trans h.f7⟩
theorem B4.set (h:B4 w b v0 v1 v2 v3) (u0 u1 u2 u3:Value):B4 ((((w.setCell ⟨b,0,none⟩ u0).setCell ⟨b,1,none⟩ u1).setCell ⟨b,2,none⟩ u2).setCell ⟨b,3,none⟩ u3) b u0 u1 u2 u3:=by
 obtain ⟨c0,c1,c2,c3,f0,f1,f2,f3⟩:=h;constructor<;>simp [*,go_sem]
theorem B1.set (h:B1 w b v) (u:Value):B1 (w.setCell ⟨b,0,none⟩ u) b u:=by
 obtain ⟨c0,f0⟩:=h;constructor<;>simp [*,go_sem]
theorem Gh {B:Nat} {w0:World} (h:Below B w0 w) (hB:B≤b) (u0 u1 u2 u3:Value):Below B w0 ((((w.setCell ⟨b,0,none⟩ u0).setCell ⟨b,1,none⟩ u1).setCell ⟨b,2,none⟩ u2).setCell ⟨b,3,none⟩ u3) :=
 (((h.setCell (p:=⟨b,0,none⟩) hB _).setCell (p:=⟨b,1,none⟩) hB _).setCell (p:=⟨b,2,none⟩) hB _).setCell (p:=⟨b,3,none⟩) hB _
end
def Hh (w:World) (l:List PT) (e:Ending) (w':World):Prop:=∃a n c,e=.returned (.tuple #[.slice a n c,.int .i64 0])∧Bc w' w.heap.size a n c l∧Bk w' w.heap.size a n c∧Below w.heap.size w w'
theorem xG (wo:World) (B:Nat) (a:Option Addr) (n c:Nat) (l:List PT) (h:Bc wo B a n c l) (hl:PW l) (K:Nat) (hK:Dd K l) (B':Nat) (a':Option Addr) (n' c':Nat) (l':List PT) (h':Bc wo B' a' n' c' l') (hl':PW l') (K':Nat) (hK':Dd K' l')
  (hKK:K+K'≤100000) (hn:n≤400000) (hnn:n*n'≤400000) (hok:I3 l l'=true) (hw:∀k,wtk (D0 l l') k≤400000) :
  Calls Tryz.prog 11 #[.slice a n c,.slice a' n' c'] wo (Hh wo (Px l l')):=by
 obtain ⟨p,hp,hpx⟩:=h.ts;obtain ⟨q,hq,hqx⟩:=h'.ts;have P1:=Ae (h.pok hl hp hpx);have Q1:=Ae (h'.pok hl' hq hqx);have P3:Hid (∀k,k<n→(p k).n1≤1000000∧(p k).n2≤1000000):=Ae fun k hk=>by have:=h.few hK hp hpx k hk;omega
 have Q3:Hid (∀k,k<n'→(q k).n1≤1000000∧(q k).n2≤1000000):=Ae fun k hk=>by have:=h'.few hK' hq hqx k hk;omega
 have P5:=Ae hpx;have Q5:=Ae hqx;have P6:=Ae h.len;have Q6:=Ae h'.len;have P7:=Ae hl;have Q7:=Ae hl';have P8:=Ae hK;have Q8:=Ae hK';have HO:=Ae hok;have HW:=Ae hw;have HNN:=Ae hnn;have HB:=Ac wo.heap.size wo;have hnf:=hp.few;have hnf':=hq.few;have hmm:=@run_makeMap Tryz.prog;clear hpx hqx hl hl' hK hK' hok hw hnn;go_enter Tryz.func11,Tryz.ntmps11;go_wp2_with fail;refine (Ev _ a n c p (hp.keep qF) P3.out true ⟨fun _=>rfl,fun _=>P1.out⟩).mono ?_;rintro e w1 ⟨rfl,hb1⟩;go_wp2_with fail;refine (Ev _ a' n' c' q ((hq.keep hb1).keep qF) Q3.out true ⟨fun _=>rfl,fun _=>Q1.out⟩).mono ?_;rintro e w2 ⟨rfl,hb2⟩;have HB2:Below wo.heap.size wo w2:=hb1.trans (hb2.mono hb1.size);clear hb1 hb2 HB;go_wp2_with fail;have HM0:C8 (w2.alloc (.map #[] 0)) w2.heap.size 0 (w2.heap.size+1) (fun _=>none):=⟨.map [],id,World.ownsMap_made w2 Tryz.prog 76 RH,Fi.empty _ _ _⟩;have HB3:Below wo.heap.size wo (w2.alloc (.map #[] 0)):=HB2.trans ((by go_grown:Below w2.heap.size w2 _).mono HB2.size);have hMo:wo.heap.size≤w2.heap.size:=HB2.size;generalize w2.heap.size=MB at *;clear HB2;go_loopw [24] (fun v24 wr=>∃k:Nat,k≤n∧v24=.int .i64 k∧C8 wr MB (k*n') (MB+1) (Dl (D0 (l.take k) l'))∧Below wo.heap.size wo wr) (fun v24 _=>n-(intOf v24).toNat)
 case atStart=>exact ⟨0,by omega,rfl,by rw [Nat.zero_mul];simpa [Dl,D0] using HM0,by go_grown⟩
 case round =>
  obtain ⟨k,hk,rfl,hM,HBr⟩:=hrel;clear HM0 HB3;by_cases hlt:k<n
  ·obtain ⟨gb,go,rfl,_⟩:=hp.cell.resolve_left qA;have hkl:k<l.length:=by rw [P6.out];exact hlt
   obtain ⟨x,hx⟩:∃x,l[k]? = some x:=⟨_,Ai hkl⟩;have hmx:=A7 hx;have hat:=(hp.keep HBr).at hlt;have hrx:=hp.tm k hlt;have htx:=(P5.out k x hx).1;have hqx:=P3.out k hlt;have hgx:=P7.out.good x hmx;have hkx:=P8.out x hmx;have hox:=Ae (show ∀y∈l',aZ x.1 y.1=true from fun y hy=>by have h9:=HO.out;unfold I3 at h9;rw [List.all_eq_true] at h9;have h8:=h9 x hmx;rw [List.all_eq_true] at h8;exact h8 y hy);have HPR:=Ae (show ∀j,D0 l l'=(D0 (l.take k) l'++(l'.take j).map fun t=>(Lm x.1 t.1,Ct x.2 t.2))++((l'.drop j).map (fun t=>(Lm x.1 t.1,Ct x.2 t.2))++D0 (l.drop (k+1)) l') from fun j=>by
    have e1:l=l.take k++x::l.drop (k+1):=by
     have e2:=List.getElem?_eq_some_iff.1 hx;rw [←e2.2,←List.drop_eq_getElem_cons e2.1,List.take_append_drop]
    rw [List.append_assoc,←List.append_assoc (List.map _ _),←List.map_append,List.take_append_drop,←Ly,←Na,←e1])
   have HT:=Ae (show l.take (k+1)=l.take k++[x] by rw [List.take_add_one,hx];rfl);generalize hs:p k=s at *;obtain ⟨e0,e1,e2,e3,e4,e5,e6,e7⟩:=hat;obtain ⟨w,rfl⟩:∃w:World,w=wr:=⟨_,rfl⟩;have hkn:k*n'+n'≤400000:=by
    have h5:(k+1)*n'≤n*n':=Nat.mul_le_mul_right n' hlt;have:=HNN.out;rw [Nat.add_mul,Nat.one_mul] at h5;omega
   have hfx:=htx.frac hrx hgx.1;have HGX:=Ae hgx;have HTX:=Ae (Ay htx hrx);have hMw:MB<w.heap.size:=by obtain ⟨D,_,hD,_⟩:=hM.ex;exact hD.lt
   have T0:=Db.new w s;have hMA:C8 (w.alloc (.cells #[.bool s.g1,.slice s.a1 s.n1 s.c1,.bool s.g2,.slice s.a2 s.n2 s.c2,.int .u16 s.m0,.int .u16 s.m1,.int .u16 s.m2,.int .u16 s.m3] 79)) MB (k*n') (MB+1) (Dl (D0 (l.take k) l')):=hM.keep qF;have HBA:=HBr.trans ((by go_grown:Below w.heap.size w (w.alloc (.cells #[.bool s.g1,.slice s.a1 s.n1 s.c1,.bool s.g2,.slice s.a2 s.n2 s.c2,.int .u16 s.m0,.int .u16 s.m1,.int .u16 s.m2,.int .u16 s.m3] 79))).mono HBr.size);clear hx hkl hgx htx hrx hs;go_wp2_with fail;go_loopw [30] (fun v30 wi=>∃j:Nat,j≤n'∧v30=.int .i64 j∧Db wi w.heap.size s∧C8 wi MB (k*n'+j) (MB+1) (Dl (D0 (l.take k) l'++(l'.take j).map fun t=>(Lm x.1 t.1,Ct x.2 t.2)))∧Below wo.heap.size wo wi) (fun v30 _=>n'-(intOf v30).toNat)
   case atStart=>exact ⟨0,by omega,rfl,T0,by simpa using hMA,HBA⟩
   case round =>
    obtain ⟨j,hj,rfl,TS,hMi,HBi⟩:=hrel;clear hM hMA HBA T0 HBr e0 e1 e2 e3 e4 e5 e6 e7;by_cases hjt:j<n'
    ·obtain ⟨gc,go',rfl,_⟩:=hq.cell.resolve_left qA;have hjl:j<l'.length:=by rw [Q6.out];exact hjt
     obtain ⟨y,hy⟩:∃y,l'[j]? = some y:=⟨_,Ai hjl⟩;have hmy:=A7 hy;obtain ⟨e0,e1,e2,e3,e4,e5,e6,e7⟩:=(hq.keep HBi).at hjt;have hry:=hq.tm j hjt;have hty:=(Q5.out j y hy).1;have hqy:=Q3.out j hjt;have hgy:=Q7.out.good y hmy;have hky:=Q8.out y hmy;have hkk:=hox.out y hmy;have HT':=Ae (show l'.take (j+1)=l'.take j++[y] by rw [List.take_add_one,hy];rfl);have HSUB:=Ae (show ∀z∈D0 (l.take k) l'++(l'.take j).map (fun t=>(Lm x.1 t.1,Ct x.2 t.2))++[(Lm x.1 y.1,Ct x.2 y.2)],CW z.2 from fun z hz=>by
      rcases List.mem_append.1 hz with hz|hz
      ·rcases List.mem_append.1 hz with hz|hz
       ·obtain ⟨x1,h1,y1,h2,rfl⟩:=La hz;exact (P7.out.good x1 (List.mem_of_mem_take h1)).1.mul (Q7.out.good y1 h2).1
       ·obtain ⟨y1,h2,rfl⟩:=List.mem_map.1 hz;exact HGX.out.1.mul (Q7.out.good y1 (List.mem_of_mem_take h2)).1
      ·rw [Ao] at hz;subst hz;exact HGX.out.1.mul hgy.1)
     generalize hs':q j=t at *;obtain ⟨wi,rfl⟩:∃w':World,w'=wr:=⟨_,rfl⟩;have hfy:=hty.frac hry hgy.1;have hss:=HTX.out.2;have ex:=Em hss.s1 hss.s2 hss.s3 hss.s0;have ey:=Em hry.s1 hry.s2 hry.s3 hry.s0;rw [HTX.out.1.key] at ex;rw [hty.key] at ey;have hko:=hkk;unfold aZ at hko;rw [ex.1,ex.2.1,ex.2.2.1,ex.2.2.2,ey.1,ey.2.1,ey.2.2.1,ey.2.2.2] at hko;simp only [Bool.and_eq_true,decide_eq_true_eq] at hko;obtain ⟨⟨⟨u0,u1⟩,u2⟩,u3⟩:=hko;have HKY:=Ae (show Ch (s.m0+t.m0) (s.m1+t.m1) (s.m2+t.m2) (s.m3+t.m3)=Lm x.1 y.1 by unfold Lm;rw [ex.1,ex.2.1,ex.2.2.1,ex.2.2.2,ey.1,ey.2.1,ey.2.2.1,ey.2.2.2]);clear ex ey hkk hjl hy hs' hry hty;have TSk:=TS;have hSw:=TS.lt;obtain ⟨t0,t1,t2,t3,t4,t5,t6,t7,-,-,-,-,-,-,-,-⟩:=TS;have TT0:=Db.new wi t;go_wp2_with fail;refine Be ?_;intro w3 hw3;have b3:Below wi.heap.size wi w3:=by rw [hw3];go_grown
     have TT3:Db w3 wi.heap.size t:=by rw [hw3];exact TT0
     have TS3:=TSk.keep b3;clear hw3 TT0 TSk t0 t1 t2 t3 t4 t5 t6 t7;generalize hv0:s.m0+t.m0=v0 at *;generalize hv1:s.m1+t.m1=v1 at *;generalize hv2:s.m2+t.m2=v2 at *;generalize hv3:s.m3+t.m3=v3 at *;refine (gT w3 s.m0 s.m1 s.m2 s.m3 t.m0 t.m1 t.m2 t.m3 v0 v1 v2 v3 hv0.symm hv1.symm hv2.symm hv3.symm u0 u1 u2 u3).mono ?_;clear hv0 hv1 hv2 hv3;rintro e w4 ⟨rfl,hb4⟩;have TS4:=TS3.keep hb4;have TT4:=TT3.keep hb4;have b4:=b3.trans (hb4.mono b3.size);clear TS3 TT3 hb4 b3;go_wp2_with fail;refine By ?_;intro w5 hw5;have b45:Below w4.heap.size w4 w5:=by rw [hw5];go_grown
     have MBx:B4 w5 w4.heap.size (.int .u16 v0) (.int .u16 v1) (.int .u16 v2) (.int .u16 v3):=by rw [hw5];constructor<;>simp [go_sem]
     have TS5:=TS4.keep b45;have TT5:=TT4.keep b45;have b5:=b4.trans (b45.mono b4.size);have TSk:=TS5;clear hw5 TS4 TT4 b45;have z4:=b4.size;generalize w4.heap.size=MM at *;obtain ⟨k0,k1,k2,k3,-,-,-,-⟩:=MBx;obtain ⟨t0,t1,t2,t3,-,-,-,-,-,-,-,-,-,-,-,-⟩:=TS5;obtain ⟨r0,r1,r2,r3,-,-,-,-,-,-,-,-,-,-,-,-⟩:=TT5;have HB5:=HBi.trans (b5.mono HBi.size);have hfx5:=hfx.keep HB5;have hfy5:=hfy.keep HB5;have z5:=b5.size;have hMw2:MB<wi.heap.size:=by obtain ⟨D,_,hD,_⟩:=hMi.ex;exact hD.lt
     have HFM:=Ae (Ay (HGX.out.1.mul hgy.1) (Ca.mono (Ca.mul HGX.out.1 hgy.1 hkx hky) (show K+K'≤1000000000 by omega)));have HYK:=Ae (show ∀z,Dl (D0 (l.take k) l'++(l'.take j).map fun t=>(Lm x.1 t.1,Ct x.2 t.2)) (Lm x.1 y.1)=some z→Ca 1000000000 z from fun z hz=>by
      have h1:=(Is (fun u hu=>HSUB.out u (List.mem_append.2 (.inl hu))) hz).2;refine Ca.mono h1 ?_;have h3:=congrArg (fun L=>wtk L (Lm x.1 y.1)) (HPR.out j);simp only [Mb] at h3;rw [Mb];have h4:=HW.out (Lm x.1 y.1)
      omega)
     go_region_held3 (fun W=>W.cell? ⟨w.heap.size,0,none⟩=some (.bool s.g1)∧W.cell? ⟨w.heap.size,1,none⟩=some (.slice s.a1 s.n1 s.c1)∧W.cell? ⟨w.heap.size,2,none⟩=some (.bool s.g2)∧W.cell? ⟨w.heap.size,3,none⟩=some (.slice s.a2 s.n2 s.c2)∧W.cell? ⟨wi.heap.size,0,none⟩=some (.bool t.g1)∧W.cell? ⟨wi.heap.size,1,none⟩=some (.slice t.a1 t.n1 t.c1)∧W.cell? ⟨wi.heap.size,2,none⟩=some (.bool t.g2)∧W.cell? ⟨wi.heap.size,3,none⟩=some (.slice t.a2 t.n2 t.c2)∧W.cell? ⟨MM,0,none⟩=some (.int .u16 v0)∧W.cell? ⟨MM,1,none⟩=some (.int .u16 v1)∧W.cell? ⟨MM,2,none⟩=some (.int .u16 v2)∧W.cell? ⟨MM,3,none⟩=some (.int .u16 v3)) (first|((try dsimp only);(repeat' apply Ay);all_goals (first|(with_reducible assumption)|(go_keep;done)|(simp [*,go_sem];done)))) (first
      | (go_at_call 39;(with_reducible refine (Ie _ _ _ _ _ _ _ _ _ _ _ (hfx5.keep qF) _ _ _ _ _ _ _ _ _ _ (hfy5.keep qF) qA qA qA qA).mono ?_);rintro e w8 ⟨gm1,am1,nm1,cm1,gm2,am2,nm2,cm2,rfl,hmul0,hfm1,hfm2,hap,hb⟩;have hmul:Bi w8 gm1 am1 nm1 cm1 (Ct x.2 y.2).1 gm2 am2 nm2 cm2 (Ct x.2 y.2).2:=hmul0;have hb8:=zI w5 hb;have z8:=hb8.size;have km1:Bf wi.heap.size w8 am1 cm1:=hfm1.mono qV;have km2:Bf wi.heap.size w8 am2 cm2:=hfm2.mono qV;(replace k0:=Bb hb8 k0;replace k1:=Bb hb8 k1;replace k2:=Bb hb8 k2;replace k3:=Bb hb8 k3;replace t0:=Bb hb8 t0;replace t1:=Bb hb8 t1;replace t2:=Bb hb8 t2;replace t3:=Bb hb8 t3;replace r0:=Bb hb8 r0;replace r1:=Bb hb8 r1;replace r2:=Bb hb8 r2;replace r3:=Bb hb8 r3))
      | (go_at_call 43;(with_reducible refine (bR wi w8 MB (k*n'+j) (MB+1) _ hMi (b5.trans (hb8.mono b5.size)) (Ag _) qA qA gm1 am1 nm1 cm1 gm2 am2 nm2 cm2 (Ct x.2 y.2) hmul km1 km2 hap v0 v1 v2 v3 u0 u1 u2 u3 HFM.out.2 (by rw [HKY.out];exact HYK.out)).mono ?_);rintro e w9 ⟨rfl,hM9,hg9⟩;have rr:∀i v,i≠MB→w8.cell? ⟨i,v,none⟩=w8.cell? ⟨i,v,none⟩:=(fun _ _ _=>rfl);clear rr;replace k0:=hg9.cell k0 qI;replace k1:=hg9.cell k1 qI;replace k2:=hg9.cell k2 qI;replace k3:=hg9.cell k3 qI;replace t0:=hg9.cell t0 qI;replace t1:=hg9.cell t1 qI;replace t2:=hg9.cell t2 qI;replace t3:=hg9.cell t3 qI;replace r0:=hg9.cell r0 qI;replace r1:=hg9.cell r1 qI;replace r2:=hg9.cell r2 qI;replace r3:=hg9.cell r3 qI))
     have HB9:Below wo.heap.size wo w9:=Below.grown (HB5.trans (hb8.mono HB5.size)) hg9 (by have:=HB5.size;omega) (fun j hj=>by cases hj;exact hMo);have TS9:=(TSk.keep hb8).row hg9 qI;rw [HKY.out] at hM9;go_wp2_with fail;go_roundw
     case rel =>
      refine ⟨j+1,by omega,by go_num,TS9,?_,HB9⟩;rw [HT'.out,List.map_append,←List.append_assoc,←Nat.add_assoc];rw [show List.map (fun t=>(Lm x.1 t.1,Ct x.2 t.2)) [y]=[(Lm x.1 y.1,Ct x.2 y.2)] from rfl,K6];exact hM9
     case measure=>(first|(simp [intOf];omega)|(simp [intOf];done))
    ·obtain rfl:j=n':=by omega
     go_wp2_with fail;go_roundw
     case rel =>
      refine ⟨k+1,by omega,by go_num,?_,HBi⟩;rw [HT.out,Na,Ly,Nat.add_mul,Nat.one_mul,show D0 [] l'=[] from rfl,List.append_nil];rw [As (l:=l') (by rw [Q6.out];exact Ad _)] at hMi;exact hMi
     case measure=>(first|(simp [intOf];omega)|(simp [intOf];done))
  ·obtain rfl:k=n:=by omega
   rw [As (by rw [P6.out];exact Ad _)] at hM;have hMw:MB<wr.heap.size:=by obtain ⟨D,_,hD,_⟩:=hM.ex;exact hD.lt
   have HSUB:∀z∈D0 l l',CW z.2:=fun z hz=>by
    obtain ⟨x1,h1,y1,h2,rfl⟩:=La hz;exact (P7.out.good x1 h1).1.mul (Q7.out.good y1 h2).1
   have hkk:∀j x,Dl (D0 l l') j=some x→j<18446744073709551616∧Ca 1000000 x:=fun j x hx=>by
    refine ⟨?_,Ca.mono (Is HSUB hx).2 (Ah (HW.out j) qA)⟩;obtain ⟨t,ht,e⟩:=Rc hx;obtain ⟨x1,h1,y1,h2,rfl⟩:=La ht;rw [←e];have h9:=HO.out;unfold I3 at h9;rw [List.all_eq_true] at h9;have h8:=h9 x1 h1;rw [List.all_eq_true] at h8;have h7:=h8 y1 h2;unfold aZ at h7;simp only [Bool.and_eq_true,decide_eq_true_eq] at h7;exact Uw h7.1.1.1 h7.1.1.2 h7.1.2 h7.2
   have hkn:=HNN.out;have HS:=Ae HSUB;clear HSUB;go_wp2_with fail;refine (dB _ MB _ (MB+1) _ hM qA qA hkk).mono ?_;rintro e w6 ⟨a6,n6,c6,r,rfl,hr,hro,hfr,hmr,hb6⟩;obtain rfl:=Kr HS.out hfr hmr;go_wp2_with fail;refine bodyPost_ret (v:=.tuple #[.slice a6 n6 c6,.int .i64 0]) (by simp [results,Tryz.results11,go_sem]) rfl ?_;exact qCt
end Go.Proofs.YtnnhcbeiogaknaaGreatDoor
end
