/- The reader of the shipped package: sum. -/
import Derived.Test.YtfijkfdfbnfmmaaGreatDoorQF45
import Derived.Test.YtfijkfdfbnfmmaaGreatDoorQF44
set_option linter.unusedSimpArgs false
set_option linter.unusedVariables false
set_option maxRecDepth 100000
set_option maxHeartbeats 4000000
section
namespace Go.Proofs.YtfijkfdfbnfmmaaGreatDoor
open Go.RowKit Proofs.Tryz
variable (w:World) (B:Nat) (L:List UInt8) (l:Δ) (a:Γ) (n:Nat) {R:Nat} {w':World}
def J8 (w:World) (R:Nat) (x:Option (Δ×Bool)) (e:Ending) (w':World):Prop :=
 w.grownBy w' (some R)∧match x with|none=>e=.panicked Lb|some (l,m)=>∃a n c,e=.returned (.slice a n c)∧Be w' w a n c l∧Ca w' w a n c∧Cl w' R [] m
theorem J8.no {w:World} (h:w.grownBy w' (some R)):J8 w R none (.panicked Lb) w':=⟨h,rfl⟩
theorem mA (wo:World) (R:Nat) (L:List UInt8) (h:Cl wo R L false) (hL:L.length<65537) (hV:I3 wo) (hR:5<R) :
  Θ 153 #[.pointer (E R)] wo (J8 wo R (Ir L)):=by
 have x8:=h.lt;have ez:some 5≠some R:=qL;have SM:=Fw L;go_enter func153,ntmps153;go_wp2_with (first|(go_at_call 204;refine (Rm _ R L false h qB).mono ?_;rintro e w1 ⟨rfl,lg,oh⟩));refine (Eb w1 R (skp L) false 45 lg qB qB qB).mono ?_;rintro e w2 ⟨rfl,lf,js⟩;obtain ⟨L1,PU⟩:∃L1,L1=(if Cq (skp L) 45 then (skp L).tail else skp L):=⟨_,rfl⟩;have BF:L1.length≤L.length:=by
  rw [PU];split
  ·simp;omega
  ·exact SM
 obtain ⟨ng,qj⟩:∃ng,ng=Cq (skp L) 45:=⟨_,rfl⟩;have RV:Hid (Ir L=match Gc L1 false ng with|none=>none|some (l,r,m)=>Hn l r m):=Ae (by rw [PU,qj];rfl);rw [←PU] at lf;rw [←qj];clear PU qj lg;have ym:=oh.trans js;have hV2:I3 w2:=hV.grown ym ez;clear oh js
 cases hx:Gc L1 false ng with
 | none =>
  go_wp2_with fail;refine (Ri w2 R L1 false ng lf qB hV2 hR).mono ?_;rintro e w3 ⟨vd,QS⟩;rw [hx] at QS;subst QS;have hz:Ir L=none:=by rw [RV.out,hx]
  refine ⟨rfl,?_⟩;rw [hz];exact J8.no (ym.trans vd)
 | some x =>
  obtain ⟨l,r,m⟩:=x;go_wp2_with (first|(go_at_call 205;refine (Ri w2 R L1 false ng lf qB hV2 hR).mono ?_;rintro e w3 ⟨vd,QS⟩;rw [hx] at QS;obtain ⟨a1,n1,c1,rfl,hP3,hO3,nc⟩:=QS));obtain ⟨g1,g2,g3⟩:=Mj hx;have g4:=Kl hx;have YB:=Ae (show Ir L=Hn l r m by rw [RV.out,hx]);have hP0:=Ae (Ax (hP3.mono ym.size) (hO3.mono ym.size));have mf:=Ae nc;have LH:=Ae (ym.trans vd);have hQ0:=Ae (show PW l∧Cj (1+(L1.length-r.length)) l∧(1+(L1.length-r.length))+3*r.length≤300000∧l.length+r.length≤100000 from ⟨g1,g2,qB,qB⟩);clear hP3 nc vd ym RV hx lf hV2 g1 g2 g3;go_loopw [2] (fun v2 wr=>∃(a:Γ) (n c:Nat) (p:Δ) (L2:List UInt8) (m:Bool) (K:Nat),v2=.slice a n c∧Hid (Ir L=Hn p L2 m)∧Hid (Be wr wo a n c p∧Ca wr wo a n c)∧Hid (PW p∧Cj K p∧K+3*L2.length≤300000∧p.length+L2.length≤100000)∧Hid (Cl wr R L2 m)∧Hid (wo.grownBy wr (some R))) (fun _ wr=>Ux wr R)
  case atStart=>exact ⟨a1,n1,c1,l,r,m,_,rfl,YB,hP0,hQ0,mf,LH⟩
  case round =>
   clear YB hP0 hQ0 mf LH;obtain ⟨a,n,c,p,L2,m,K,rfl,hX,hP,hQ,hr,hg⟩:=hrel;have hVr:I3 wr:=hV.grown hg.out ez;have t0:=hr.out.c0
   cases L2 with
   | nil =>
    go_wp2_with fail;have hz:Ir L=some (p,m):=by rw [hX.out,Hn]
    rw [hz];go_ret;exact ⟨hg.out,a,n,c,rfl,hP.out.1,hP.out.2,hr.out⟩
   | cons b r2 =>
    have TU:(b::r2).length≤100000:=by have:=hQ.out;omega
    have JI:r2.length<100000:=by have:=TU;simp only [List.length_cons] at this;omega
    have AL:=Ae (Ff hr.out);by_cases h45:b=45
    ·subst h45;have DP:Hid (Ir L=match Gc r2 m true with|none=>none|some (l',r',m')=>Hn (Cf p l') r' m'):=Ae (by rw [hX.out,Hn];simp;split<;>simp_all);clear hX
     cases hy:Gc r2 m true with
     | none =>
      have hz:Ir L=none:=by rw [DP.out,hy]
      go_wp2_with fail;refine (Eb wr R (45::r2) m 45 hr.out qB qB qB).mono ?_;rintro e w4 ⟨rfl,su,FX⟩;rw [show Cq (45::r2) 45=true by simp [Cq]] at su ⊢;simp only [if_true,List.tail_cons] at su;have ve:=hg.out.trans FX;have yb:=su;go_wp2_with (first|(go_at_call 207;refine (Eg _).mono ?_;rintro e w6 ⟨rfl,rfl⟩)|(go_at_call 205;refine (Ri _ R r2 m true yb qB (hV.grown ve ez) hR).mono ?_;rintro e w7 ⟨CQ,NG⟩;rw [hy] at NG;subst NG));refine ⟨rfl,?_⟩;rw [hz];exact J8.no (ve.trans CQ)
     | some x =>
      obtain ⟨l',r',m'⟩:=x;have hX2:=Ae (show Ir L=Hn (Cf p l') r' m' by rw [DP.out,hy]);obtain ⟨g1,g2,g3⟩:=Mj hy;have g4:=Kl hy;obtain ⟨q1,q2,q3,q4⟩:=hQ.out;have q5:=Lr p l';simp only [List.length_cons] at q3 q4;have ZW:=Ae (show PW (Cf p l')∧Cj (K+(1+(r2.length-r'.length))+1) (Cf p l')∧(K+(1+(r2.length-r'.length))+1)+3*r'.length≤300000∧(Cf p l').length+r'.length≤100000 from ⟨q1.add g1,Cj.add p l' q1.good g1.good q2 g2,qB,qB⟩);clear DP;go_wp2_with fail;refine (Eb wr R (45::r2) m 45 hr.out qB qB qB).mono ?_;rintro e w4 ⟨rfl,su,FX⟩;rw [show Cq (45::r2) 45=true by simp [Cq]] at su ⊢;simp only [if_true,List.tail_cons] at su;have ve:=hg.out.trans FX;have yb:=su;go_wp2_with (first|(go_at_call 207;refine (Eg _).mono ?_;rintro e w6 ⟨rfl,rfl⟩)|(go_at_call 205;refine (Ri _ R r2 m true yb qB (hV.grown ve ez) hR).mono ?_;rintro e w7 ⟨CQ,NG⟩;rw [hy] at NG;obtain ⟨a7,n7,c7,rfl,hP7,_,hr7⟩:=NG;have hP8:=hP.out.1.butR (FX.trans CQ) (fun k hk=>by cases hk;exact x8);have e7:=hP7.len;have e8:=hP8.len)|(go_at_call 101;refine (M8 _ _ a n c p hP8 q1 K q2 _ a7 n7 c7 l' hP7 g1 (1+(r2.length-r'.length)) g2 qB qB qB).mono ?_;rintro e w9 ⟨a9,n9,c9,rfl,hP9,hO9,hb9⟩));exact qCc
    ·by_cases h43:b=43
     ·subst h43;have DP:Hid (Ir L=match Gc r2 m false with|none=>none|some (l',r',m')=>Hn (Cf p l') r' m'):=Ae (by rw [hX.out,Hn];simp;split<;>simp_all);clear hX
      cases hy:Gc r2 m false with
      | none =>
       have hz:Ir L=none:=by rw [DP.out,hy]
       go_wp2_with fail;refine (Eb wr R (43::r2) m 45 hr.out qB qB qB).mono ?_;rintro e w4 ⟨rfl,su,FX⟩;rw [show Cq (43::r2) 45=false by simp [Cq]] at su ⊢;simp only [Bool.false_eq_true,if_false] at su;go_wp2_with (first|(go_at_call 206;refine (Eb w4 R (43::r2) m 43 su qB qB qB).mono ?_;rintro e w5 ⟨rfl,yb,yl⟩;rw [show Cq (43::r2) 43=true by simp [Cq]] at yb ⊢;simp only [if_true,List.tail_cons] at yb;have ve:=(hg.out.trans FX).trans yl)|(go_at_call 207;refine (Eg _).mono ?_;rintro e w6 ⟨rfl,rfl⟩)|(go_at_call 205;refine (Ri _ R r2 m false yb qB (hV.grown ve ez) hR).mono ?_;rintro e w7 ⟨CQ,NG⟩;rw [hy] at NG;subst NG));refine ⟨rfl,?_⟩;rw [hz];exact J8.no (ve.trans CQ)
      | some x =>
       obtain ⟨l',r',m'⟩:=x;have hX2:=Ae (show Ir L=Hn (Cf p l') r' m' by rw [DP.out,hy]);obtain ⟨g1,g2,g3⟩:=Mj hy;have g4:=Kl hy;obtain ⟨q1,q2,q3,q4⟩:=hQ.out;have q5:=Lr p l';simp only [List.length_cons] at q3 q4;have ZW:=Ae (show PW (Cf p l')∧Cj (K+(1+(r2.length-r'.length))+1) (Cf p l')∧(K+(1+(r2.length-r'.length))+1)+3*r'.length≤300000∧(Cf p l').length+r'.length≤100000 from ⟨q1.add g1,Cj.add p l' q1.good g1.good q2 g2,qB,qB⟩);clear DP;go_wp2_with fail;refine (Eb wr R (43::r2) m 45 hr.out qB qB qB).mono ?_;rintro e w4 ⟨rfl,su,FX⟩;rw [show Cq (43::r2) 45=false by simp [Cq]] at su ⊢;simp only [Bool.false_eq_true,if_false] at su;go_wp2_with (first|(go_at_call 206;refine (Eb w4 R (43::r2) m 43 su qB qB qB).mono ?_;rintro e w5 ⟨rfl,yb,yl⟩;rw [show Cq (43::r2) 43=true by simp [Cq]] at yb ⊢;simp only [if_true,List.tail_cons] at yb;have ve:=(hg.out.trans FX).trans yl)|(go_at_call 207;refine (Eg _).mono ?_;rintro e w6 ⟨rfl,rfl⟩)|(go_at_call 205;refine (Ri _ R r2 m false yb qB (hV.grown ve ez) hR).mono ?_;rintro e w7 ⟨CQ,NG⟩;rw [hy] at NG;obtain ⟨a7,n7,c7,rfl,hP7,_,hr7⟩:=NG;have hP8:=hP.out.1.butR ((FX.trans yl).trans CQ) (fun k hk=>by cases hk;exact x8);have e7:=hP7.len;have e8:=hP8.len)|(go_at_call 101;refine (M8 _ _ a n c p hP8 q1 K q2 _ a7 n7 c7 l' hP7 g1 (1+(r2.length-r'.length)) g2 qB qB qB).mono ?_;rintro e w9 ⟨a9,n9,c9,rfl,hP9,hO9,hb9⟩));exact qCc
     ·have h1:Cq (b::r2) 45=false:=by simpa [Cq] using fun e:(b.toNat:Int)=45=>h45 (UInt8.toNat_inj.1 (by show b.toNat=45;omega))
      have h2:Cq (b::r2) 43=false:=by simpa [Cq] using fun e:(b.toNat:Int)=43=>h43 (UInt8.toNat_inj.1 (by show b.toNat=43;omega))
      have hz:Ir L=none:=by rw [hX.out,Hn];simp [h45,h43]
      go_wp2_with fail;refine (Eb wr R (b::r2) m 45 hr.out qB qB qB).mono ?_;rintro e w4 ⟨rfl,su,FX⟩;rw [h1] at su ⊢;simp only [Bool.false_eq_true,if_false] at su;go_wp2_with (first|(go_at_call 206;refine (Eb w4 R (b::r2) m 43 su qB qB qB).mono ?_;rintro e w5 ⟨rfl,yb,yl⟩;rw [h2])|(go_at_call 207;refine (Ov _).mono ?_;rintro e w6 ⟨rfl,rfl⟩));refine ⟨rfl,?_⟩;rw [hz];exact J8.no ((hg.out.trans FX).trans yl)
theorem U6 (p q:Addr) (w:World) :
  CallsD prog 152 #[.pointer (some p),.pointer (some q)] .returning w fun e u' w'=>e=.returned (.tuple #[])∧u'=.returning∧w'=w:=by
 have nu:∀w:World,(binOp BinOp.neq 20 .nilIface .nilIface).run prog w=.ok (.bool false) w:=fun _=>qE
 refine callsD_of_wpS func152 rfl fun c₀ cs hu=>?_
 simp only [ntmps152,List.size_toArray,List.length_cons,List.length_nil,Nat.reduceAdd,Nat.reduceSub,Array.replicate_succ,Array.replicate_zero,List.push_toArray,List.append_toArray,List.nil_append,List.cons_append];apply wpS_seq;apply wpS_region;simp [wpOpsS,go_sem,recoverD,hu,Exit.thenS];apply wpS_seq;apply wpS_region;simp [wpOpsS,go_sem,Exit.thenS,nu];refine wpS_cond (t:=false) (by simp [Act.eval,Array.replicate]) ?_;exact qFg
theorem Df {w:World} {B:Nat} (h:w.grownBy w' (some R)) (hR:B≤R) (hB:B≤w.heap.size):Below B w w':=⟨h.os,h.tape,h.output,h.size,fun k hk=>h.block k qB qL⟩
theorem aP (b c:Nat) (w:World) (v1 v2:Value) (h1:Z w b 0 v1) (h2:Z w c 0 v2) (f1:Y w b 0) (f2:Y w c 0) (di:b≠c) :
  CallsD prog 152 #[.pointer (E b),.pointer (E c)] (.panicking Lb) w fun e u' w'=>e=.returned (.tuple #[])∧u'=.panicking [{ v:=.iface 206 (.agg #[]),recovered:=true }]∧w'=(w.setCell (J b 0) (.slice none 0 0)).setCell (J c 0) (M 4):=by
 have hta:∀w:World,(Instr.typeAssert (.iface 206 (.agg #[])) 20 206 false).run prog w=.ok (.agg #[]) w:=fun _=>qE
 have nu:∀w:World,(binOp BinOp.neq 20 (.iface 206 (.agg #[])) .nilIface).run prog w=.ok (.bool true) w:=fun _=>qE
 refine callsD_of_wpS func152 rfl fun c₀ cs hu=>?_
 simp only [ntmps152,List.size_toArray,List.length_cons,List.length_nil,Nat.reduceAdd,Nat.reduceSub,Array.replicate_succ,Array.replicate_zero,List.push_toArray,List.append_toArray,List.nil_append,List.cons_append];apply wpS_seq;apply wpS_region;simp [wpOpsS,go_sem,recoverD,hu,Exit.thenS];apply wpS_seq;apply wpS_region;simp [wpOpsS,go_sem,Exit.thenS,nu];refine wpS_cond (t:=true) (by simp [Act.eval,Array.replicate]) ?_;exact qFg
theorem sQ (hL:L.length<1000000000) (hV:I3 w) (h7:5<w.heap.size) :
  Θ 84 #[.string ⟨L.toArray⟩] w fun e w'=>∃a n c,e=.returned (.tuple #[.slice a n c,M (Fm L).2])∧Be w' w a n c (Fm L).1∧Ca w' w a n c∧xp w w':=by
 go_enter_defers func84,ntmps84;by_cases h65:65536<L.length
 ·have aqv:¬((L.length:Int)≤65536):=qB;have hz:Fm L=([],3):=by unfold Fm;rw [if_pos h65]
  rw [hz];go_wp2_with fail;simp [bodyPostD,Leaves,settle,results,results84,go_sem];exact ⟨none,0,0,⟨rfl,rfl,rfl⟩,Be.nil _ _,Ca.nil _ _,qD⟩
 ·have aqv:(L.length:Int)≤65536:=qB;obtain ⟨W0,th⟩:∃W0,W0=(((w.alloc (Obj.cells #[Value.slice none 0 0] 24)).alloc (Obj.cells #[Value.int IntKind.i64 0] 28)).alloc (Obj.cells #[Value.string { data:=L.toArray },Value.bool false] 209)):=⟨_,rfl⟩;have mf:Cl W0 (w+1+1) L false:=by rw [th];exact ⟨qJ,qJ,qJ,qJ⟩
  have lz:xp w W0:=by rw [th];go_grown
  have BO:I3 W0:=hV.grown (Bl lz none) qH;have p0:Z W0 w 0 (.slice none 0 0):=by rw [th];simp [go_sem]
  have p1:Z W0 (w+1) 0 (M 0):=by rw [th];simp [go_sem]
  have q0:Y W0 w 0:=by rw [th];simp [go_sem]
  have q1:Y W0 (w+1) 0:=by rw [th];simp [go_sem]
  have dw:w.heap.size+3≤W0.heap.size:=by rw [th];simp
  have lj:=mA W0 (w+1+1) L mf qB BO qB
  cases hx:Ir L with
  | none =>
   have hz:Fm L=([],4):=by unfold Fm;rw [if_neg h65,hx]
   rw [hz];go_wp2_with fail;rw [←th];refine lj.mono ?_;rintro e w1 ⟨hg,hp⟩;rw [hx] at hp;subst hp;have c0:=hg.cell p0 qL;have c1:=hg.cell p1 qH;have d0:Y w1 w 0:=(B7 hg qB qL).trans q0;have d1:Y w1 (w+1) 0:=(B7 hg qB qH).trans q1;refine leaves_cons (f:=152) (args:=#[.pointer (E w),.pointer (E (w+1))]) qH qJ ?_;refine (aP _ _ w1 _ _ c0 c1 d0 d1 qB).mono ?_;rintro e u' w2 ⟨rfl,rfl,rfl⟩;simp [c0,c1,Leaves,settle,results,results84,go_sem];exact ⟨none,0,0,⟨rfl,rfl,rfl⟩,Be.nil _ _,Ca.nil _ _,((lz.trans (Df hg qB qB)).trans (Df (Bm _ (Cn _ _)) (Ad _) (by have:=hg.size;omega))).trans (Df (R:=w.heap.size+1) (Bm _ (Cn _ _)) qB (by have:=hg.size;simp;omega))⟩
  | some x =>
   obtain ⟨l,m⟩:=x;cases m
   ·have hz:Fm L=(l,0):=by unfold Fm;rw [if_neg h65,hx];rfl
    rw [hz];go_wp2_with fail;rw [←th];refine lj.mono ?_;rintro e w1 ⟨hg,hp⟩;rw [hx] at hp;obtain ⟨a,n,c,rfl,hP,hO,hr⟩:=hp;have c0:=hg.cell p0 qL;have c1:=hg.cell p1 qH;have d0:Y w1 w 0:=(B7 hg qB qL).trans q0;have d1:Y w1 (w+1) 0:=(B7 hg qB qH).trans q1;have t1:=hr.c1;go_wp2_with fail;refine leaves_cons (f:=152) (args:=#[.pointer (E w),.pointer (E (w+1))]) qH qJ ?_;refine (U6 _ _ _).mono ?_;rintro e u' w2 ⟨rfl,rfl,rfl⟩;simp [c0,c1,Leaves,settle,results,results84,go_sem];have YZ:=hg.size;have gA:=Bm (R:=w.heap.size) (o:=0) (.slice a n c) (Bm (R:=w.heap.size) (o:=0) (.slice a n c) (Cn w1 (some w.heap.size)));have gB:=Bm (R:=w.heap.size+1) (o:=0) (M 0) (Cn ((w1.setCell (J w 0) (.slice a n c)).setCell (J w 0) (.slice a n c)) (some (w.heap.size+1)));exact ⟨a,n,c,⟨rfl,rfl,rfl⟩,((hP.butR gA (fun k hk=>by cases hk;omega)).butR gB (fun k hk=>by cases hk;omega)).mono lz.size,((hO.butR gA (fun k hk=>by cases hk;omega)).butR gB (fun k hk=>by cases hk;omega)).mono lz.size,((lz.trans (Df hg qB qB)).trans (Df gA (Ad _) qB)).trans (Df (R:=w.heap.size+1) gB qB qL)⟩
   ·have hz:Fm L=([],3):=by unfold Fm;rw [if_neg h65,hx];rfl
    rw [hz];go_wp2_with fail;rw [←th];refine lj.mono ?_;rintro e w1 ⟨hg,hp⟩;rw [hx] at hp;obtain ⟨a,n,c,rfl,hP,hO,hr⟩:=hp;have c0:=hg.cell p0 qL;have c1:=hg.cell p1 qH;have d0:Y w1 w 0:=(B7 hg qB qL).trans q0;have d1:Y w1 (w+1) 0:=(B7 hg qB qH).trans q1;have t1:=hr.c1;go_wp2_with fail;refine leaves_cons (f:=152) (args:=#[.pointer (E w),.pointer (E (w+1))]) qH qJ ?_;refine (U6 _ _ _).mono ?_;rintro e u' w2 ⟨rfl,rfl,rfl⟩;simp [c0,c1,Leaves,settle,results,results84,go_sem];have YZ:=hg.size;have gA:=Bm (R:=w.heap.size) (o:=0) (.slice none 0 0) (Bm (R:=w.heap.size) (o:=0) (.slice a n c) (Cn w1 (some w.heap.size)));have gB:=Bm (R:=w.heap.size+1) (o:=0) (M 3) (Cn ((w1.setCell (J w 0) (.slice a n c)).setCell (J w 0) (.slice none 0 0)) (some (w.heap.size+1)));exact ⟨none,0,0,⟨rfl,rfl,rfl⟩,Be.nil _ _,Ca.nil _ _,((lz.trans (Df hg qB qB)).trans (Df gA (Ad _) qB)).trans (Df (R:=w.heap.size+1) gB qB qL)⟩
theorem I3.keep {w:World} (h:I3 w) (hb:xp w w'):I3 w':=h.grown (Cy hb) qH
theorem Om (hl:(Fm L).1=l) (hL:L.length<1000000000) (hV:I3 w) (h7:5<w.heap.size) :
  Θ 15 #[.string ⟨L.toArray⟩] w (Fy w l):=by
 have HP:=Ae (sQ w L hL hV h7);have HL:=Ae hl;clear hl hV;go_enter func15,ntmps15;go_wp2_with fail;refine HP.out.mono ?_;rintro e w1 ⟨a,n,c,rfl,hp,ho,hb⟩;rw [HL.out] at hp;go_wp2_with fail;go_ret;exact ⟨a,n,c,rfl,hp,ho,hb⟩
theorem Ur (c:Nat) (l:Δ) (h:Be w B a n c l) (hs:Sm l) (hT:Tab w) (L:List UInt8) (hL:txL l=L) :
  Θ 17 #[.slice a n c,.string ⟨L.toArray⟩] w (fun e w'=>e=.returned (.bool true)∧xp w w'):=by
 have hn:=h.len;have MA:=hs.len;have HX:=tT w B a n c l h hs.pw (fun t ht=>Ch.mono (hs.few t ht) qB) qB hT;rw [hL] at HX;have HX:=Ae HX;clear h hL hn hT;go_enter func17,ntmps17;go_wp2_with fail;refine HX.out.mono ?_;rintro e w1 ⟨rfl,hb⟩;go_wp2_with fail;refine bodyPost_ret (v:=.bool true) (by simp [results,results17,go_sem]) rfl ?_;exact ⟨rfl,hb⟩
theorem Abo:(Fm [120,94,50,32,43,32,121,94,50,32,45,32,49]).1=zP1.1::zP1.2:=by decide +kernel
theorem Abu:(Fm [120,32,45,32,121]).1=zP2.1::zP2.2:=by decide +kernel
theorem wR:(Fm [120,32,121,32,45,32,49]).1=zQ2.1::zQ2.2:=by decide +kernel
theorem Abl:(Fm [120,32,121,94,50,32,45,32,121]).1=bH:=by decide +kernel
theorem Aba:(Fm [49]).1=[(0,(1,1))]:=by decide +kernel
theorem Aby:(Fm [120,94,50,32,45,32,121]).1=(Bv 2 0 0 0,(1,1))::bQ1.tail:=by decide +kernel
theorem Ab4:txL (zP2.1::zP2.2)=[120,32,45,32,121]:=by decide +kernel
theorem Abs:txL (zM.1::zM.2)=[121,94,50,32,45,32,49,47,50]:=by decide +kernel
theorem Ab2:txL bQ=[120,32,45,32,121,94,50]:=by decide +kernel
theorem sm_H:Sm bH:=Sm.of (by decide +kernel)
theorem sm_U:Sm [(0,((1,1):PC))]:=Sm.of (by decide +kernel)
theorem xB:Sm ((Bv 2 0 0 0,((1,1):PC))::bQ1.tail):=Sm.of (by decide +kernel)
theorem sm_Q:Sm bQ:=Sm.of (by decide +kernel)
theorem vE (W:World) (X zb:Nat) (a:Γ) (n c:Nat) (h:Be W X a n c ((Bv 2 0 0 0,(1,1))::bQ1.tail)) (a':Γ) (n' c':Nat) (h':Be W zb a' n' c' (zQ2.1::zQ2.2)) :
  Θ 7 #[.int .u8 0,.slice a n c,.slice a' n' c'] W (fun e w'=>∃a n c,e=.returned (.tuple #[.slice a n c,M 0])∧Be w' W a n c bQ∧xp W w'):=by
 have hn:n=2:=by rw [←h.len];rfl
 have rk:n'=2:=by rw [←h'.len];rfl
 refine (fF W 0 qB X a n c _ _ h xB.pw 100 xB.few qB zb a' n' c' _ _ h' Ws.pw 100 Ws.few qB qB qB).mono ?_;rintro e w' (⟨_,a9,n9,c9,rfl,hp,ho,hb⟩|⟨h1,_⟩)
 ·exact ⟨a9,n9,c9,rfl,by rw [←mZ.2];exact hp,hb⟩
 ·exact absurd (mZ.1.symm.trans h1) qI
theorem Aam (L lc:Nat) (TU:1≤lc) (j8:DIn w L 0 [zQ2]) (B pn pc:Nat) (pa:Γ) (hp:Be w B pa pn pc bH) :
  Θ 16 #[.int .u8 0,.slice (E L) (1:Nat) lc,.slice pa pn pc] w (fun e w'=>e=.returned (.tuple #[.bool true,M 0])∧xp w w'):=by
 have:=xI w (E L) 1 lc L 0 [zQ2] rfl qB TU (.inr rfl) j8 [zQ2] rfl (fun i z hz=>by
  match i,hz with
  | 0,hz=>cases hz;exact ⟨_,_,iI,Ws,rfl⟩
  | n+1,hz=>simp at hz) [zQ2] (by rw [jC]) Ab1 B pn pc pa bH hp sm_H (fun z hz=>by
   simp only [Ao] at hz;subst hz;exact Ws) qH 10 [] yP
 exact this
theorem zZ (pn pc:Nat) (pa:Γ) (hp:Be w B pa pn pc [(0,(1,1))]) :
  Θ 16 #[.int .u8 0,.slice none 0 0,.slice pa pn pc] w (fun e w'=>e=.returned (.tuple #[.bool false,M 0])∧xp w w'):=by
 have:=xI w none 0 0 0 0 [] rfl qB qB (.inl ⟨rfl,rfl,rfl⟩) ⟨fun i x l hx=>by simp at hx⟩ [] rfl (fun i z hz=>by simp at hz) [] rfl (fun j z hz=>by simp at hz) B pn pc pa [(0,(1,1))] hp sm_U (fun z hz=>by simp at hz) qH 10 [(0,(1,1))] Aac;exact this
theorem Wp (hT:Tab w) (hV:I3 w) (h7:5<w.heap.size) :
  Θ 5 #[] w (fun e w'=>e=.returned (.bool true)∧xp w w'):=by
 have HB:=Ac w w;have HH:=Ae (Ax hT (Ax hV h7));clear hT hV h7;go_enter func5,ntmps5;go_wp2_with fail;refine (Om w _ _ Abo qH HH.out.2.1 HH.out.2.2).mono ?_;rintro e w1 ⟨a1,n1,c1,rfl,P1,O1,b1⟩;go_wp2_with fail;refine (Om w1 _ _ Abu qH (HH.out.2.1.keep b1) (Nat.lt_of_lt_of_le HH.out.2.2 b1.size)).mono ?_;rintro e w2 ⟨a2,n2,c2,rfl,P2,O2,k2⟩;have b2:=xo b1 k2;go_wp2_with fail;refine Bt ?_;intro w3 eb;have k3:xp w2 w3:=by rw [eb];go_grown
 have N3:Blk w3 w2 #[.slice a1 n1 c1,.slice a2 n2 c2] 24:=by rw [eb];exact C0 rfl _ _
 have b3:=xo b2 k3;clear eb;have D3:DIn w3 w2 0 [zP1,zP2]:=⟨fun k x l hx=>by
  match k,hx with
  | 0,hx=>cases hx;exact ⟨a1,n1,c1,N3.cell 0 _ rfl,((P1.keep k2).keep k3).mono (Ba _),Uh⟩
  | 1,hx=>cases hx;exact ⟨a2,n2,c2,N3.cell 1 _ rfl,(P2.keep k3).mono (Ba _),Pw⟩
  | m+2,hx=>simp at hx⟩
 refine (Ab8 w3 2 w2 0 qB D3).mono ?_;rintro e w4 ⟨ga,gc,rfl,FQ,hG,k4⟩;have b4:=xo b3 k4;have HG:=Ae hG;clear P1 O1 P2 O2 N3 D3 hG k2 k3 k4 b1 b2 b3 HB;go_wp2_with fail;refine (Om w4 _ _ wR qH (HH.out.2.1.keep b4) (Nat.lt_of_lt_of_le HH.out.2.2 b4.size)).mono ?_;rintro e w5 ⟨a1,n1,c1,rfl,P1,O1,k5⟩;have b5:=xo b4 k5;go_wp2_with fail;refine Bt ?_;intro w6 uk;have k6:xp w5 w6:=by rw [uk];go_grown
 have N6:Blk w6 w5 #[.slice a1 n1 c1] 24:=by rw [uk];exact C0 rfl _ _
 have b6:=xo b5 k6;clear uk;refine (Om w6 _ _ Abl qH (HH.out.2.1.keep b6) (Nat.lt_of_lt_of_le HH.out.2.2 b6.size)).mono ?_;rintro e w7 ⟨a2,n2,c2,rfl,P2,O2,k7⟩;have b7:=xo b6 k7;have D7:DIn w7 w5 0 [zQ2]:=⟨fun k x l hx=>by
  match k,hx with
  | 0,hx=>cases hx;exact ⟨a1,n1,c1,(N6.keep k7).cell 0 _ rfl,((P1.keep k6).keep k7).mono (Ba _),Ws⟩
  | m+1,hx=>simp at hx⟩
 have k47:xp w4 w7:=(xo k5 k6).trans (k7.mono (xo k5 k6).size);go_wp2_with fail;refine (Aam w7 w5 1 qB D7 _ n2 c2 a2 P2).mono ?_;rintro e w8 ⟨rfl,k8⟩;have b8:=xo b7 k8;have k48:=xo k47 k8;clear P1 O1 P2 O2 N6 D7 k5 k6 k7 k47 b5 b6 b7 k8;go_wp2_with fail;refine (Om w8 _ _ Aba qH (HH.out.2.1.keep b8) (Nat.lt_of_lt_of_le HH.out.2.2 b8.size)).mono ?_;rintro e w9 ⟨a1,n1,c1,rfl,P1,O1,k9⟩;have b9:=xo b8 k9;have ZA:=xo k48 k9;go_wp2_with fail;refine (zZ w9 _ n1 c1 a1 P1).mono ?_;rintro e wa ⟨rfl,ka⟩;have ba:=xo b9 ka;have k4a:=xo ZA ka;clear P1 O1 k9 ka k48 ZA b8 b9;go_wp2_with fail;refine (Om wa _ _ Aby qH (HH.out.2.1.keep ba) (Nat.lt_of_lt_of_le HH.out.2.2 ba.size)).mono ?_;rintro e wb ⟨a1,n1,c1,rfl,P1,O1,kb⟩;have bb:=xo ba kb;have k4b:=xo k4a kb;go_wp2_with fail;refine (Om wb _ _ wR qH (HH.out.2.1.keep bb) (Nat.lt_of_lt_of_le HH.out.2.2 bb.size)).mono ?_;rintro e wc ⟨a2,n2,c2,rfl,P2,O2,kc⟩;have bc:=xo bb kc;have k4c:=xo k4b kc;go_wp2_with fail;refine (vE wc _ _ a1 n1 c1 (P1.keep kc) a2 n2 c2 P2).mono ?_;rintro e wd ⟨qa,qn,qc,rfl,PQ,kd⟩;have bd:=xo bc kd;have k4d:=xo k4c kd;obtain ⟨G,rfl,xq⟩:=HG.out.resolve_left qH;obtain ⟨ya,yn,yc,y1,y2,y3⟩:=xq 0 zP2 rfl;obtain ⟨za,zn,zc,z1,z2,z3⟩:=xq 1 zM rfl;have g0:=Bb k4d y1;have g1:=Bb k4d z1;have HPS:=Ae (Ax (y2.keep k4d) (Ax (z2.keep k4d) PQ));clear P1 O1 P2 O2 kb kc kd k4a k4b k4c ba bb bc PQ xq y1 y2 y3 z1 z2 z3 k4d HG b4;go_wp2_with fail;refine (Ur wd _ ya yn yc _ HPS.out.1 Pw (HH.out.1.keep bd) _ Ab4).mono ?_;rintro e we ⟨rfl,ke⟩;have be:=xo bd ke;have g2:=Bb ke g1;have HP2:=Ae (Ax (HPS.out.2.1.keep ke) (HPS.out.2.2.keep ke));clear g0 g1 ke HPS bd;go_wp2_with fail;refine (Ur we _ za zn zc _ HP2.out.1 nE (HH.out.1.keep be) _ Abs).mono ?_;rintro e wf ⟨rfl,kf⟩;have bf:=xo be kf;go_wp2_with fail;refine (Ur wf _ qa qn qc _ (HP2.out.2.keep kf) sm_Q (HH.out.1.keep bf) _ Ab2).mono ?_;rintro e wg ⟨rfl,kg⟩;have bg:=xo bf kg;go_wp2_with fail;refine bodyPost_ret (v:=.bool true) (by simp [results,results5,go_sem]) rfl ?_;exact ⟨rfl,bg⟩
end Go.Proofs.YtfijkfdfbnfmmaaGreatDoor
end
