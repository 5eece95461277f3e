/- Library: slices.SortStableFunc of three sums, each of which comes ahead of those in front of it; of one, of no. -/
import Derived.Test.YtfijkfdfbnfmmaaGreatDoorQF35
set_option linter.unusedSimpArgs false
set_option linter.unusedVariables false
set_option maxRecDepth 100000
set_option maxHeartbeats 4000000
section
namespace Go.Proofs.YtfijkfdfbnfmmaaGreatDoor
open Go.RowKit Proofs.Tryz
variable (w:World) (G cp:Nat) (al:Γ) (O LB:Nat) {i j:Nat} {x y:Value}
theorem xP {u:Array Value} (h:j<u.size):((u.setIfInBounds i x).setIfInBounds j y)[j]? = some y:=by
 rw [Array.getElem?_setIfInBounds_self_of_lt (by simpa using h)]
theorem Aaz {u:Array Value} (h:i<u.size) (BC:j≠i):((u.setIfInBounds i x).setIfInBounds j y)[i]? = some x:=by
 rw [Array.getElem?_setIfInBounds_ne BC,Array.getElem?_setIfInBounds_self_of_lt h]
theorem Aao {u:Array Value} {k:Nat} (h1:i≠k) (h2:j≠k):((u.setIfInBounds i x).setIfInBounds j y)[k]? = u[k]?:=by
 rw [Array.getElem?_setIfInBounds_ne h2,Array.getElem?_setIfInBounds_ne h1]
theorem pM (SU:3≤cp) (cur:Array Value) (hB:Blk w G cur 24) (a0 a1 a2:Γ) (n0 c0 n1 c1 n2 c2:Nat) (e0:cur[0]? = some (.slice a0 n0 c0)) (e1:cur[1]? = some (.slice a1 n1 c1)) (e2:cur[2]? = some (.slice a2 n2 c2)) (F:Nat) (rf:Array Value)
  (hE:∀args W,(callFunc F args).run prog W=.ok (.enter F args) W)
  (hc:∀W,w.grownBy W (some G)→Θ F (#[(.slice a1 n1 c1),(.slice a0 n0 c0)]++rf) W (fun e W'=>e=.returned (M (-1))∧xp W W')∧Θ F (#[(.slice a2 n2 c2),(.slice a0 n0 c0)]++rf) W (fun e W'=>e=.returned (M (-1))∧xp W W')∧Θ F (#[(.slice a2 n2 c2),(.slice a1 n1 c1)]++rf) W (fun e W'=>e=.returned (M (-1))∧xp W W')) :
  Θ 237 #[.slice (E G) 3 cp,M 0,M 3,.func (.func F) #[] rf] w (fun e w'=>e=.returned (.tuple #[])∧w.grownBy w' (some G)∧∃kj,Blk w' G kj 24∧kj[0]? = some (.slice a2 n2 c2)∧kj[1]? = some (.slice a1 n1 c1)∧kj[2]? = some (.slice a0 n0 c0)):=by
 have mixed:prog.follows .mixedOrders=true:=qE;have HC:=Ae hc;have fb:3≤cur.size:=by have:=(Ar.1 e2).1;omega
 have G0:=World.grownBy.refl w (some G);clear hc;go_enter func237,ntmps237;go_wp2_with fail;refine wp_loop_rounds 3 ?_;rw [rounds_succ];go_wp2_with fail;refine wp_loop_rounds 2 ?_;rw [rounds_succ];have k0:=Bk (hB.cell 1 _ e1);have k1:=Bk (hB.cell 0 _ e0);have qd:=fun n:Cw w=>Cr (HC.out n.1 (G0.trans (Bl n.2 _))).1
 go_wp2_with fail;refine Bi qE qE ?_;(repeat (go_big_quiet_step (first|(exact qd _))));refine wpQuiet_nil ?_;intro _ cw;obtain ⟨nq,cw⟩:=cw;subst cw;have br:xp w nq.1:=nq.2;generalize nq.1=v1 at br ⊢;clear nq k0 k1 qd;have B1:=hB.keep br;have g0:Z v1 G 1 (.slice a1 n1 c1):=B1.cell 1 _ e1;have g1:Z v1 G 0 (.slice a0 n0 c0):=B1.cell 0 _ e0;have f0:=B1.frozen 1;have f1:=B1.frozen 0;go_wp2_with fail;go_region_o;go_wp2_with fail;rw [rounds_succ];refine Bx ?_;intro w2 df;have G1:w.grownBy w2 (some G):=by rw [df];exact (Bm _ (Bm _ (G0.trans (Bl br _)))).trans (Bl qD _)
 have C1:Blk w2 G ((cur.setIfInBounds 1 (.slice a0 n0 c0)).setIfInBounds 0 (.slice a1 n1 c1)) 24:=by rw [df];exact ((B1.set 1 _).set 0 _).keep qD
 clear df g0 g1 f0 f1 B1;obtain ⟨u1,LX⟩:∃u,u=(cur.setIfInBounds 1 (.slice a0 n0 c0)).setIfInBounds 0 (.slice a1 n1 c1):=⟨_,rfl⟩;rw [←LX] at C1;have z1:3≤u1.size:=by rw [LX];simpa using fb
 have e10:u1[0]? = some (.slice a1 n1 c1):=by rw [LX];exact xP qB
 have e11:u1[1]? = some (.slice a0 n0 c0):=by rw [LX];exact Aaz qB qI
 have SK:u1[2]? = some (.slice a2 n2 c2):=by rw [LX];exact (Aao qI qI).trans e2
 go_wp2_with fail;(refine Bi qE qE ?_;(repeat (go_big_quiet_step (fail)));refine wpQuiet_nil ?_;intro _ cw;obtain ⟨nq,cw⟩:=cw;subst cw);have od:xp w2 nq.1:=nq.2;generalize nq.1=x2 at od ⊢;clear nq;have D1:=C1.keep od;have GD1:=G1.trans (Bl od _);clear C1;go_wp2_with fail;rw [rounds_succ];go_wp2_with fail;refine wp_loop_rounds 3 ?_;rw [rounds_succ];have k0:=Bk (D1.cell 2 _ SK);have k1:=Bk (D1.cell 1 _ e11);have qd:=fun n:Cw x2=>Cr (HC.out n.1 (GD1.trans (Bl n.2 _))).2.1
 go_wp2_with fail;refine Bi qE qE ?_;(repeat (go_big_quiet_step (first|(exact qd _))));refine wpQuiet_nil ?_;intro _ cw;obtain ⟨nq,cw⟩:=cw;subst cw;have bp:xp x2 nq.1:=nq.2;generalize nq.1=v2 at bp ⊢;clear nq k0 k1 qd;have B2:=D1.keep bp;have g0:Z v2 G 2 (.slice a2 n2 c2):=B2.cell 2 _ SK;have g1:Z v2 G 1 (.slice a0 n0 c0):=B2.cell 1 _ e11;have f0:=B2.frozen 2;have f1:=B2.frozen 1;go_wp2_with fail;go_region_o;go_wp2_with fail;rw [rounds_succ];refine Bx ?_;intro w3 df;have G2:w.grownBy w3 (some G):=by rw [df];exact (Bm _ (Bm _ (GD1.trans (Bl bp _)))).trans (Bl qD _)
 have C2:Blk w3 G ((u1.setIfInBounds 2 (.slice a0 n0 c0)).setIfInBounds 1 (.slice a2 n2 c2)) 24:=by rw [df];exact ((B2.set 2 _).set 1 _).keep qD
 clear df g0 g1 f0 f1 B2;obtain ⟨u2,TE⟩:∃u,u=(u1.setIfInBounds 2 (.slice a0 n0 c0)).setIfInBounds 1 (.slice a2 n2 c2):=⟨_,rfl⟩;rw [←TE] at C2;have z2:3≤u2.size:=by rw [TE];simpa using z1
 have e20:u2[0]? = some (.slice a1 n1 c1):=by rw [TE];exact (Aao qI qI).trans e10
 have e21:u2[1]? = some (.slice a2 n2 c2):=by rw [TE];exact xP qB
 have e22:u2[2]? = some (.slice a0 n0 c0):=by rw [TE];exact Aaz qB qI
 have k0:=Bk (C2.cell 1 _ e21);have k1:=Bk (C2.cell 0 _ e20);have qd:=fun n:Cw w3=>Cr (HC.out n.1 (G2.trans (Bl n.2 _))).2.2
 go_wp2_with fail;refine Bi qE qE ?_;(repeat (go_big_quiet_step (first|(exact qd _))));refine wpQuiet_nil ?_;intro _ cw;obtain ⟨nq,cw⟩:=cw;subst cw;have ea:xp w3 nq.1:=nq.2;generalize nq.1=v3 at ea ⊢;clear nq k0 k1 qd;have B3:=C2.keep ea;have g0:Z v3 G 1 (.slice a2 n2 c2):=B3.cell 1 _ e21;have g1:Z v3 G 0 (.slice a1 n1 c1):=B3.cell 0 _ e20;have f0:=B3.frozen 1;have f1:=B3.frozen 0;go_wp2_with fail;go_region_o;go_wp2_with fail;rw [rounds_succ];refine Bx ?_;intro w4 df;have G3:w.grownBy w4 (some G):=by rw [df];exact (Bm _ (Bm _ (G2.trans (Bl ea _)))).trans (Bl qD _)
 have C3:Blk w4 G ((u2.setIfInBounds 1 (.slice a1 n1 c1)).setIfInBounds 0 (.slice a2 n2 c2)) 24:=by rw [df];exact ((B3.set 1 _).set 0 _).keep qD
 clear df g0 g1 f0 f1 B3;obtain ⟨u3,NX⟩:∃u,u=(u2.setIfInBounds 1 (.slice a1 n1 c1)).setIfInBounds 0 (.slice a2 n2 c2):=⟨_,rfl⟩;rw [←NX] at C3;have z3:3≤u3.size:=by rw [NX];simpa using z2
 have e30:u3[0]? = some (.slice a2 n2 c2):=by rw [NX];exact xP qB
 have e31:u3[1]? = some (.slice a1 n1 c1):=by rw [NX];exact Aaz qB qI
 have e32:u3[2]? = some (.slice a0 n0 c0):=by rw [NX];exact (Aao qI qI).trans e22
 go_wp2_with fail;(refine Bi qE qE ?_;(repeat (go_big_quiet_step (fail)));refine wpQuiet_nil ?_;intro _ cw;obtain ⟨nq,cw⟩:=cw;subst cw);have SC:xp w4 nq.1:=nq.2;generalize nq.1=x4 at SC ⊢;clear nq;have D3:=C3.keep SC;have GD3:=G3.trans (Bl SC _);clear C3;go_wp2_with fail;rw [rounds_succ];go_wp2_with fail;exact bodyPost_end (v:=.tuple #[]) (by simp [results,results237,go_sem]) rfl ⟨rfl,GD3,u3,D3,e30,e31,e32⟩
theorem lY (SU:3≤cp) (cur:Array Value) (hB:Blk w G cur 24) (a0 a1 a2:Γ) (n0 c0 n1 c1 n2 c2:Nat) (e0:cur[0]? = some (.slice a0 n0 c0)) (e1:cur[1]? = some (.slice a1 n1 c1)) (e2:cur[2]? = some (.slice a2 n2 c2)) (F:Nat) (rf:Array Value)
  (hE:∀args W,(callFunc F args).run prog W=.ok (.enter F args) W)
  (hc:∀W,w.grownBy W (some G)→Θ F (#[(.slice a1 n1 c1),(.slice a0 n0 c0)]++rf) W (fun e W'=>e=.returned (M (-1))∧xp W W')∧Θ F (#[(.slice a2 n2 c2),(.slice a0 n0 c0)]++rf) W (fun e W'=>e=.returned (M (-1))∧xp W W')∧Θ F (#[(.slice a2 n2 c2),(.slice a1 n1 c1)]++rf) W (fun e W'=>e=.returned (M (-1))∧xp W W')) :
  Θ 148 #[.slice (E G) 3 cp,.func (.func F) #[] rf] w (fun e w'=>e=.returned (.tuple #[])∧w.grownBy w' (some G)∧∃kj,Blk w' G kj 24∧kj[0]? = some (.slice a2 n2 c2)∧kj[1]? = some (.slice a1 n1 c1)∧kj[2]? = some (.slice a0 n0 c0)):=by
 have HI:=Ae (pM w G cp SU cur hB a0 a1 a2 n0 c0 n1 c1 n2 c2 e0 e1 e2 F rf hE hc);clear hc;go_enter func148,ntmps148;go_wp2_with fail;have iv:Θ 202 #[.slice (E G) 3 cp,M 3,.func (.func F) #[] rf] w (fun e w'=>e=.returned (.tuple #[])∧w.grownBy w' (some G)∧∃kj,Blk w' G kj 24∧kj[0]? = some (.slice a2 n2 c2)∧kj[1]? = some (.slice a1 n1 c1)∧kj[2]? = some (.slice a0 n0 c0)):=by
  go_enter func202,ntmps202;go_wp2_with fail;refine wp_loop_rounds 1 ?_;rw [rounds_succ];go_wp2_with fail;refine HI.out.mono ?_;exact qDd
 exact qDx
theorem mD (n cp:Nat) (hn:n≤1) (f:Value) :
  Θ 148 #[.slice al n cp,f] w (fun e w'=>e=.returned (.tuple #[])∧xp w w'):=by
 have qv:¬(1:Int)<n:=qB;have vh:¬(20:Int)≤n:=qB;have ll:¬(20:Int)<n:=qB;have HB:=Ac w w;go_enter func148,ntmps148;go_wp2_with fail;have iv:Θ 202 #[.slice al n cp,M n,f] w (fun e w'=>e=.returned (.tuple #[])∧xp w w'):=by
  go_enter func202,ntmps202;go_wp2_with fail;refine wp_loop_rounds 1 ?_;rw [rounds_succ];go_wp2_with fail;have hi:Θ 237 #[.slice al n cp,M 0,M n,f] w (fun e w'=>e=.returned (.tuple #[])∧xp w w'):=by
   go_enter func237,ntmps237;go_wp2_with fail;refine wp_loop_rounds 1 ?_;rw [rounds_succ];go_wp2_with fail;exact bodyPost_end (v:=.tuple #[]) (by simp [results,results237,go_sem]) rfl ⟨rfl,qD⟩
  refine hi.mono ?_;exact qDd
 exact qDx
def gT (k:Nat):Value:=.agg #[U (exN k 0:Nat),U (exN k 1:Nat),U (exN k 2:Nat),U (exN k 3:Nat)]
theorem Yr (hO:Z w O 0 (.int .u8 0)) (B n c:Nat) (a:Γ) (x:PT) (l:Δ) (h:Be w B a n c (x::l)) (hx:Sm (x::l)) :
  Θ 147 #[.slice a n c,.pointer (E O)] w (fun e w'=>e=.returned (gT x.1)∧xp w w'):=by
 have HB:=Ac w w;have hOw:O<w.heap.size:=Aa _ _ hO;have nO:¬w.heap.size=O:=qB;go_enter func147,ntmps147;go_wp2_with fail;refine Bt ?_;intro w1 fk;have b1:xp w w1:=by rw [fk];go_grown
 have M1:Blk w1 w #[U 0,U 0,U 0,U 0] 56:=by rw [fk];exact C0 rfl _ _
 clear fk;refine (Xg (h.keep b1) hx).mono ?_;rintro e w2 ⟨t,rfl,ht,kz,ln,nk,bp⟩;have b2:=xo b1 bp;have M2:=M1.keep bp;have hM:=M2.lt;have c0:Z w2 w 0 (U 0):=M2.cell 0 _ rfl;have c1:Z w2 w 1 (U 0):=M2.cell 1 _ rfl;have c2:Z w2 w 2 (U 0):=M2.cell 2 _ rfl;have c3:Z w2 w 3 (U 0):=M2.cell 3 _ rfl;have f0:=M2.frozen 0;have f1:=M2.frozen 1;have f2:=M2.frozen 2;have f3:=M2.frozen 3;have e7:=Dz kz.s1 kz.s2 kz.s3 kz.s0;rw [ht.key] at e7;have E7:=Ae e7;have nM:¬w2.heap.size=w.heap.size:=qB;clear e7 ht kz ln nk bp M1 M2 b1;go_wp2_with fail;refine bodyPost_ret (v:=.agg #[U t.m0,U t.m1,U t.m2,U t.m3]) (by simp [*,results,results147,go_sem]) rfl ?_;refine ⟨?_,qD⟩;unfold gT;rw [E7.out.1,E7.out.2.1,E7.out.2.2.1,E7.out.2.2.2]
theorem cC (hO:Z w O 0 (.int .u8 0)) (hL:Z w LB 0 (.func (.func 147) #[] #[.pointer (E O)])) (B n c:Nat) (a:Γ) (x:PT) (l:Δ) (h:Be w B a n c (x::l)) (hx:Sm (x::l)) (B' n' c':Nat) (a':Γ) (x':PT) (l':Δ) (h':Be w B' a' n' c' (x'::l')) (FL:Sm (x'::l')) :
  Θ 149 #[.slice a n c,.slice a' n' c',.pointer (E O),.pointer (E LB)] w (fun e w'=>e=.returned (M (Dd (exF x.1) (exF x'.1)))∧xp w w'):=by
 have k0:=Bk hO;have k1:=Bk hL;have hA:=fun W:Cw w=>Cr (Yr W.1 O (Bb W.2 hO) B n c a x l (h.keep W.2) hx)
 have hB:=fun W:Cw w=>Cr (Yr W.1 O (Bb W.2 hO) B' n' c' a' x' l' (h'.keep W.2) FL)
 have hC:=fun W:Cw w=>Cr ((Yp W.1 (exN x.1 0:Nat) (exN x.1 1:Nat) (exN x.1 2:Nat) (exN x.1 3:Nat) (exN x'.1 0:Nat) (exN x'.1 1:Nat) (exN x'.1 2:Nat) (exN x'.1 3:Nat)))
 clear hO hL h h';unfold gT at hA hB;go_enter func149,ntmps149;go_wp2_with fail;refine Bi qE qE ?_;(repeat (go_big_quiet_step (first|(with_reducible exact hA _)|(with_reducible exact hB _)|(with_reducible exact hC _))));refine wpQuiet_nil ?_;intro _ cw;obtain ⟨nq,cw⟩:=cw;subst cw;go_wp2_with fail;go_ret;have hq:∀(k:Nat) (i:Nat),i<4→Bn (exN k 0:Nat) (exN k 1:Nat) (exN k 2:Nat) (exN k 3:Nat) i=exF k i:=fun k i hi=>by
  match i,hi with
  | 0,_=>rfl
  | 1,_=>rfl
  | 2,_=>rfl
  | 3,_=>rfl
 exact ⟨by rw [←Ok (hq x.1) (hq x'.1)];rfl,nq.2⟩
theorem Aau (PB:Nat) (hO:Z w O 0 (.int .u8 0)) (hL:Z w LB 0 (.func (.func 147) #[] #[.pointer (E O)])) (B n c:Nat) (a:Γ) (x:PT) (l:Δ) (hP:Z w PB 0 (.slice a n c)) (h:Be w B a n c (x::l)) (hx:Sm (x::l)) (B' n' c':Nat) (a':Γ) (x':PT) (l':Δ) (h':Be w B' a' n' c' (x'::l')) (FL:Sm (x'::l')) :
  Θ 150 #[.slice a' n' c',.pointer (E LB),.pointer (E PB)] w (fun e w'=>e=.returned (.bool (inM x.1 x'.1))∧xp w w'):=by
 have hA:=fun W (hW:xp w W)=>Yr W O (Bb hW hO) B n c a x l (h.keep hW) hx
 have hB:=fun W (hW:xp w W)=>Yr W O (Bb hW hO) B' n' c' a' x' l' (h'.keep hW) FL
 unfold gT at hA hB;have HA:=Ae (Ax hA hB);clear hA hB;have hw:=Aa _ _ hL;have hw':=Aa _ _ hP;have HM:=Ae (show inM x.1 x'.1=(decide (exN x'.1 0≤exN x.1 0)&&decide (exN x'.1 1≤exN x.1 1)&&decide (exN x'.1 2≤exN x.1 2)&&decide (exN x'.1 3≤exN x.1 3)) by unfold inM;rfl);go_enter func150,ntmps150;go_wp2_with fail;have hdiv:∀W,Θ 22 #[.agg #[U (exN x.1 0:Nat),U (exN x.1 1:Nat),U (exN x.1 2:Nat),U (exN x.1 3:Nat)],.agg #[U (exN x'.1 0:Nat),U (exN x'.1 1:Nat),U (exN x'.1 2:Nat),U (exN x'.1 3:Nat)]] W (fun e w'=>∃u0 u1 u2 u3:Nat,e=.returned (.tuple #[.agg #[U u0,U u1,U u2,U u3],.bool (inM x.1 x'.1)])∧xp W w'):=fun W=>by
  refine (Jm W (exN x.1 0) (exN x.1 1) (exN x.1 2) (exN x.1 3) (exN x'.1 0) (exN x'.1 1) (exN x'.1 2) (exN x'.1 3) (Fv _ _) (Fv _ _) (Fv _ _) (Fv _ _) (Fv _ _) (Fv _ _) (Fv _ _) (Fv _ _) (inM x.1 x'.1) HM.out).mono ?_;rintro e w' ⟨rfl,hb⟩
  cases inM x.1 x'.1
  ·exact ⟨0,0,0,0,rfl,hb⟩
  ·exact ⟨_,_,_,_,rfl,hb⟩
 have HD:=Ae hdiv;clear hdiv;have HB:=Ac w w;go_cut [6] (fun v6 wc=>v6=.bool (inM x.1 x'.1)∧xp w wc)
 case first =>
  go_region_held3 (fun W=>Z W LB 0 (.func (.func 147) #[] #[.pointer (E O)])∧Z W PB 0 (.slice a n c)) (exact qK) (first
   | (go_at_call 147;(with_reducible refine (HA.out.1 _ qD).mono ?_);rintro e w1 ⟨rfl,hb⟩;obtain ⟨hc,hf⟩:=Bg hb;have br:=zP w hb;have hz:=hb.size;(try simp only [Aj,Ak] at hz);replace HB:=br;(replace ⟨hL,hP⟩:=xk br hL hP);(try have k1:w.heap.size<w1:=qB))
   | (go_at_call 147;(with_reducible refine (HA.out.2 _ qD).mono ?_);rintro e w2 ⟨rfl,hb⟩;obtain ⟨hc,hf⟩:=Bg hb;have bp:=zP w1 hb;have hz:=hb.size;(try simp only [Aj,Ak] at hz);replace HB:=xo HB bp;(replace ⟨hL,hP⟩:=xk bp hL hP);(try have k2:w.heap.size<w2:=qB);(try have k3:w1.heap.size<w2:=qB))
   | (go_at_call 22;(with_reducible refine (HD.out _).mono ?_);rintro e w3 ⟨u0,u1,u2,u3,rfl,hb⟩;obtain ⟨hc,hf⟩:=Bg hb;have ea:=zP w2 hb;have hz:=hb.size;(try simp only [Aj,Ak] at hz);replace HB:=xo HB ea;(replace ⟨hL,hP⟩:=xk ea hL hP);(try have k4:w.heap.size<w3:=qB);(try have k5:w1.heap.size<w3:=qB);(try have k6:w2.heap.size<w3:=qB)))
  all_goals
   go_wp2_with fail;go_meet
   case rel=>exact ⟨rfl,qD⟩
 case rest =>
  obtain ⟨rfl,HC⟩:=hcut;go_wp2_with fail;go_ret;exact ⟨rfl,HC⟩
end Go.Proofs.YtfijkfdfbnfmmaaGreatDoor
end
section
namespace Go.Proofs
open YtfijkfdfbnfmmaaGreatDoor
open Go.Shelf
def Tryz.laysGrowP_ren:Go.Shelf.Ren:=⟨fun|4=>203|n=>n,fun|22=>59|25=>24|3=>3|4=>4|9=>9|20=>20|0=>0|n=>n,fun|n=>n⟩
theorem Tryz.laysGrowP:Go.Proofs.Lays8.n4 prog Tryz.laysGrowP_ren:={
 mixed:=qE
 f4:=⟨Tryz.f203.name,qI,func203.trans (congrArg some (qE))⟩
 t0:=underlying0
 a0:=Tryz.isAgg0
 z0:=Tryz.sizeOf0
 v0:=Tryz.zeroValue0
 t3:=underlying3
 a3:=Tryz.isAgg3
 z3:=Tryz.sizeOf3
 v3:=Tryz.zeroValue3
 t4:=underlying4
 a4:=Tryz.isAgg4
 z4:=Tryz.sizeOf4
 v4:=Tryz.zeroValue4
 t9:=underlying9
 a9:=Tryz.isAgg9
 z9:=Tryz.sizeOf9
 v9:=Tryz.zeroValue9
 t20:=underlying20
 a20:=Tryz.isAgg20
 z20:=Tryz.sizeOf20
 v20:=Tryz.zeroValue20
 t22:=underlying59
 a22:=Tryz.isAgg59
 z22:=Tryz.sizeOf59
 v22:=Tryz.zeroValue59 }
end Go.Proofs
namespace Go.Proofs.YtfijkfdfbnfmmaaGreatDoor
open Go.RowKit Proofs.Tryz
variable {B c m:Nat} {w w':World} {a:Γ} {l:Δ}
theorem Eu {ops:Array Oper} {rest:List Oper} {o:Oper} {a:Act} {Q:Exit→Act→World→Prop} (vx:o.guard=none) (s x:Operand)
  (ho:o.op=.call { callee:=.builtin .append,args:=#[s,x],argTypes:=#[59,59] }) (base:Nat) (v:Value) (k:Nat) (xs:List Value) (hs:a.eval s=v) (ah:w.ownsRow base 24 1 v k xs)
  (ad:Γ) (n c:Nat) (us:List Value) (hx:a.eval x=.slice ad n c) (oz:n≤c) (hl:us.length=n) (hc:(ad=none∧n=0∧c=0)∨∃b o,ad=some ⟨b,o,none⟩∧∀j u,us[j]? = some u→w.cell? ((J b o:Addr).add j)=some u) (h1:∀u∈us,u.oneCell'=true) (hk:k≤1000000) (hn:n≤1000000) (LI:base≤w.heap.size)
  (h:∀v' w',w'.ownsRow base 24 1 v' (k+n) (xs++us)→w.grownBy w' v.ownBlock→wpList prog ops Q rest (a.put o.dst v') w'):wpList prog ops Q (o::rest) a w:=by
 obtain ⟨i0,hi,dw,ed,en⟩:=info_parts Iq;rcases hc with ⟨rfl,rfl,rfl⟩|⟨b,off,rfl,ij⟩
 ·have DM:us=[]:=List.length_eq_zero_iff.1 hl;subst DM;refine wpList_append_own_none vx s x 59 ho base 24 i0 1 underlying59 hi v k xs hs ah hx (h v w ?_ ⟨rfl,rfl,rfl,Ad _,fun _ _ _=>rfl⟩);simpa using ah
 ·exact wpList_append_own _ vx s x 59 ho base 24 i0 (.slice none 0 0) 1 24 underlying59 hi dw ed en rfl qI v k xs hs ah (J b off) n c us hx qB ij h1 qN qB LI (fun v' w' h1 h2 _=>h v' w' h1 h2)
theorem sN (w:World) (n:Nat) (hn:n≤2000000):Θ 203 #[.slice none 0 0,M n] w fun e w'=>∃v,e=.returned v∧w'.ownsRow w 24 1 v 0 []∧xp w w':=by
 obtain ⟨i0,hi,dw,ed,en⟩:=info_parts Iq;by_cases h0:n=0
 ·subst h0;have h:=Any8.slices_Grow_room Tryz.laysGrowP none 0 0 0 w qB qB qB qB;exact (show Θ 203 _ _ _ from h).mono fun e w' ⟨he,hw⟩=>⟨_,he,⟨rfl,.inl ⟨rfl,rfl⟩⟩,by rw [hw];exact Ac _ _⟩
 ·have h:=Any8.slices_Grow_grow Tryz.laysGrowP i0 _ hi dw qB none 0 0 n [] w qB qB (by rw [en];omega) qB qH qH qH;refine (show Θ 203 _ _ _ from h).mono ?_;rintro e w' ⟨rfl,rfl⟩;have hg:=grownCap_ge w (0+n) 0 (Tryz.laysGrowP_ren.t 25);have hm:=grownCap_le_maxLen w (0+n) 0 (Tryz.laysGrowP_ren.t 25) qN;refine ⟨_,rfl,⟨rfl,.inr ⟨w.heap.size,_,_,rfl,Ad _,by exact World.alloc_heap_new w.drew _,qB,hm,?_,qH⟩⟩,(Ac _ w).drew.alloc (Ad _) _⟩;generalize grownCap w (0+n) 0 (Tryz.laysGrowP_ren.t 25)=G at *;have h8:(Value.slice none 0 0).cells.size=1:=rfl;simp only [Array.size_append,size_zeroCells,h8,List.size_toArray,List.length_nil];omega
theorem kW (w:World) (A:Nat) (a:Γ) (n c:Nat) (us:List Value) (oz:n≤c) (hl:us.length=n) (hc:(a=none∧n=0∧c=0)∨∃b o,a=some ⟨b,o,none⟩∧∀j u,us[j]? = some u→w.cell? ((J b o:Addr).add j)=some u) (h1:∀u∈us,u.oneCell'=true)
  (a':Γ) (n' c':Nat) (us':List Value) (afn:n'≤c') (hl':us'.length=n') (jf:(a'=none∧n'=0∧c'=0)∨∃b o,a'=some ⟨b,o,none⟩∧∀j u,us'[j]? = some u→w.cell? ((J b o:Addr).add j)=some u) (FD:∀u∈us',u.oneCell'=true)
  (hn:n≤500000) (rk:n'≤500000) (x0:Z w A 0 (.slice a n c)) (x1:Z w A 1 (.slice a' n' c')) :
  Θ 151 #[.slice (E A) 2 2] w fun e w'=>∃v,e=.returned v∧w'.ownsRow w 24 1 v (n+n') (us++us')∧xp w w':=by
 have hk:∀{W:World} {a:Γ} {n c:Nat} {us:List Value},xp w W→((a=none∧n=0∧c=0)∨∃b o,a=some ⟨b,o,none⟩∧∀j u,us[j]? = some u→w.cell? ((J b o:Addr).add j)=some u)→((a=none∧n=0∧c=0)∨∃b o,a=some ⟨b,o,none⟩∧∀j u,us[j]? = some u→W.cell? ((J b o:Addr).add j)=some u):=fun hW h=>h.imp id fun⟨b,o,e1,e2⟩=>⟨b,o,e1,fun j u hj=>Bb hW (e2 j u hj)⟩
 have HC:=Ae (Ax hc (Ax jf (Ax h1 FD)));have HU:=Ae (Ax hl hl');clear hc jf h1 FD hl hl';have HB:=Ac w w;have hG:∀W:World,Θ 203 #[.slice none 0 0,M ((n:Int)+(n':Int))] W fun e w'=>∃v,e=.returned v∧w'.ownsRow W 24 1 v 0 []∧xp W w':=fun W=>by
  have h:=sN W (n+n') qB;rwa [Int.natCast_add] at h
 go_enter func151,ntmps151;go_wp2_with fail;refine wp_loop_rounds 3 ?_;rw [rounds_succ];go_wp2_with fail;rw [rounds_succ];go_wp2_with fail;rw [rounds_succ];go_wp2_with (first|(go_at_call 203;refine (hG _).mono ?_;rintro e w1 ⟨v1,rfl,du,br⟩));have ed:=br.size;have y0:=Bb br x0;have y1:=Bb br x1;refine wp_loop_rounds 3 ?_;rw [rounds_succ];go_wp2_with (first|(at_builtin;refine Eu rfl _ _ rfl w _ 0 [] rfl du a n c us rfl oz HU.out.1 (hk br HC.out.1) HC.out.2.2.1 qB qB ed ?_;intro v2 w2 cv js));have bp:xp w w2:=br.grown js ed (Dj du);have en:=bp.size;have z0:=Bb bp x0;have z1:=Bb bp x1;rw [List.nil_append,Nat.zero_add] at cv;rw [rounds_succ];go_wp2_with (first|(at_builtin;refine Eu rfl _ _ rfl w _ n us rfl cv a' n' c' us' rfl afn HU.out.2 (hk bp HC.out.2.1) HC.out.2.2.2 qB qB en ?_;intro v3 w3 dh vd));have ea:xp w w3:=bp.grown vd en (Dj cv);rw [rounds_succ];go_wp2_with fail;refine bodyPost_ret (v:=v3) (by simp [results,results151,go_sem]) rfl ?_;exact ⟨v3,rfl,dh,ea⟩
def Ci (L:List (PT×Δ)) (z:PT×Δ):List (PT×Δ):=if L.any (fun q=>inM z.1.1 q.1.1) then L else L++[z]
def SR (w:World) (B:Nat) (ga:Γ) (gs:List (PT×Δ)):Prop:=gs=[]∨∃G,ga=some ⟨G,0,none⟩∧∀(i:Nat) (z:PT×Δ),gs[i]? = some z→∃a n c,Z w G i (.slice a n c)∧Be w B a n c (z.1::z.2)∧Ca w B a n c
theorem Kf {n:Nat} {xs:List Value} (h:w.ownsRow B 24 1 (.slice a m c) n xs):m=n∧xs.length=n∧n≤c∧((a=none∧n=0∧c=0)∨∃G,a=some ⟨G,0,none⟩∧B≤G∧∀i u,xs[i]? = some u→Z w G i u):=by
 have h0:xs.length=n:=by simpa using h.1
 rcases h.2 with ⟨e,h1⟩|⟨G,cap,cur,e,hB,h2,h3,_⟩
 ·cases e
  subst h1;exact ⟨rfl,h0,Ad _,.inl ⟨rfl,rfl,rfl⟩⟩
 ·cases e
  exact ⟨rfl,h0,h3,.inr ⟨G,rfl,hB,fun i u hu=>by have:=World.ownsRow.cells h rfl i u hu;rwa [Sh] at this⟩⟩
theorem Ki {gs:List (PT×Δ)}:∀(l L:List (PT×Δ)),(∀z∈l,z∈gs)→(∀z∈L,z∈gs)→∀z∈l.foldl Ci L,z∈gs
 | [],L,_,h=>h
 | x::l,L,h1,h2=>by
  rw [List.foldl_cons];refine Ki l _ (fun z hz=>h1 z (List.mem_cons_of_mem _ hz)) fun z hz=>?_
  unfold Ci at hz
  split at hz
  ·exact h2 z hz
  ·rcases List.mem_append.1 hz with h|h
   ·exact h2 z h
   ·rw [Ao] at h;rw [h];exact h1 _ (List.mem_cons_self ..)
theorem Kb:∀(l L:List (PT×Δ)),(l.foldl Ci L).length≤L.length+l.length
 | [],L=>by simp
 | x::l,L=>by
  rw [List.foldl_cons];have h1:=Kb l (Ci L x);have h2:(Ci L x).length≤L.length+1:=by
   unfold Ci
   split
   ·omega
   ·simp
  simp only [List.length_cons];omega
theorem Y6 {gs:List (PT×Δ)} {i:Nat} {z:PT×Δ} (h:gs[i]? = some z):(gs.take (i+1)).foldl Ci []=Ci ((gs.take i).foldl Ci []) z:=by
 rw [List.take_add_one,h,Option.toList_some,List.foldl_append,List.foldl_cons,List.foldl_nil]
theorem Gm {n k:Nat} {cur:Array Value} {t:TypeId} (h:Be w B a n c l) (ho:Ca w B a n c) (hk:Blk w k cur t) (h1:t≠129) (h2:t≠58) (hg:w.grownBy w' (some k)):Be w' B a n c l∧Ca w' B a n c :=
 Tk h ho (fun cu e=>by unfold Blk at hk;rw [hk] at e;cases e;exact h1 rfl) (fun cu e=>by unfold Blk at hk;rw [hk] at e;cases e;exact h2 rfl) hg
theorem aO (G o k:Nat):(J G o:Addr).add k=⟨G,o+k,none⟩:=by unfold Addr.add;split<;>simp_all
theorem N7 {α:Type} (l:List α) (j i:Nat) (hj:j<l.length):(l.take j++l.drop (j+1))[i]? = if i<j then l[i]? else l[i+1]?:=by
 split
 ·rename_i h;rw [Ay (by rw [List.length_take];omega),List.getElem?_take,if_pos h]
 ·rename_i h;have e1:(l.take j).length=j:=by rw [List.length_take];omega
  rw [Az qB,List.getElem?_drop,e1]
  congr 1
  omega
theorem cP (W:World) (g n c k:Nat) (hk:k≤c):(Instr.sliceAt 59 (.slice (E g) n c) none (some (M (k:Int))) none).run prog W=.ok (.slice (E g) k c) W:=qBu
def Xj (w:World) (O OB m j:Nat) (rs:List (PT×Δ)):Prop :=
 ∃cur,Blk w OB cur 24∧cur.size=m∧∀k q,k<j→rs[k]? = some q→∃a n c,cur[m-1-k]? = some (.slice a n c)∧Be w O a n c (q.1::q.2)∧Ca w O a n c
theorem Xj.keep {O OB j:Nat} {rs:List (PT×Δ)} (h:Xj w O OB m j rs) (hb:xp w w'):Xj w' O OB m j rs:=by
 obtain ⟨cur,h1,h2,h3⟩:=h;exact ⟨cur,h1.keep hb,h2,fun k q hk hq=>by obtain ⟨a,n,c,e1,e2,e3⟩:=h3 k q hk hq;exact ⟨a,n,c,e1,e2.keep hb,e3.keep hb⟩⟩
theorem Xj.set {O OB j n:Nat} {rs:List (PT×Δ)} {z:PT×Δ} (h:Xj w O OB m j rs) (hj:j<m) (hz:rs[j]? = some z) (hp:Be w O a n c (z.1::z.2)) (ho:Ca w O a n c):Xj (w.setCell (J OB (m-1-j)) (.slice a n c)) O OB m (j+1) rs:=by
 obtain ⟨cur,h1,h2,h3⟩:=h;have hg:w.grownBy (w.setCell (J OB (m-1-j)) (.slice a n c)) (some OB):=Bm _ (World.grownBy.refl _ _);refine ⟨_,h1.set _ _,by simpa using h2,fun k q hk hq=>?_⟩;by_cases e:k=j
 ·subst e;rw [hz] at hq;cases hq;have:=Gm hp ho h1 qI qI hg;exact ⟨a,n,c,by rw [Array.getElem?_setIfInBounds];simp;omega,this.1,this.2⟩
 ·obtain ⟨a',n',c',e1,e2,e3⟩:=h3 k q qB hq;have:=Gm e2 e3 h1 qI qI hg;exact ⟨a',n',c',by rw [Array.getElem?_setIfInBounds_ne qB];exact e1,this.1,this.2⟩
theorem Wv (w:World) (X B:Nat) (ga:Γ) (n gc:Nat) (gs:List (PT×Δ)) (hn:gs.length=n) (JF:n≤40) (ri:n≤gc) (mh:∀z∈gs,Sm (z.1::z.2)) (hX:X≤w.heap.size)
  (BV:∀(W:World) (O LB:Nat),Below w w W→Z W O 0 (.int .u8 0)→Z W LB 0 (.func (.func 147) #[] #[.pointer (E O)])→w.heap.size≤O→w.heap.size≤LB →
   Θ 148 #[.slice ga n gc,.func (.func 149) #[] #[.pointer (E O),.pointer (E LB)]] W (fun e W'=>e=.returned (.tuple #[])∧SR W' B ga gs∧(∃row:Option Nat,W.grownBy W' row∧∀k,row=some k→X≤k∧k<w.heap.size)))
  (rs:List (PT×Δ)) (lj:rs.length=(gs.foldl Ci []).length) (ew:∀(j:Nat) (z:PT×Δ),(gs.foldl Ci [])[j]? = some z→∃f x l y q,Ii ((gs.foldl Ci []).take j++(gs.foldl Ci []).drop (j+1)) f (z.1::z.2) (((gs.foldl Ci []).take j++(gs.foldl Ci []).drop (j+1)).map fun _=>[]) []=some (x::l)∧Sm (x::l)∧Fx 0 x l=y::q∧rs[j]? = some (y,q)) :
  Θ 83 #[.int .u8 0,.slice ga n gc] w (fun e w'=>∃a c,e=.returned (.tuple #[.slice a rs.length c,M 0])∧rs.length≤c∧SR w' w a rs.reverse∧Below X w w'):=by
 have OQ:=Ae lj;have RJ:=Ae ew;clear lj ew;have HS:=Ae BV;have HSM:=Ae mh;have HN:=Ae hn;clear BV mh hn;go_enter func83,ntmps83;go_wp2_with fail;refine Bt ?_;intro w1 fk;have b1:Below w w w1:=by rw [fk];go_grown
 have o1:Z w1 w 0 (.int .u8 0):=by rw [fk];simp [go_sem]
 have l1:Z w1 (w+1) 0 (.func (.func 147) #[] #[.pointer (E w)]):=by rw [fk];simp [go_sem]
 clear fk;refine (HS.out w1 _ _ b1 o1 l1 (Ad _) qB).mono ?_;rintro e w2 ⟨rfl,hSR,row,hg,je⟩;have o2:=hg.cell o1 (fun e=>by have:=je _ e.symm;simp only at this;omega);have l2:=hg.cell l1 (fun e=>by have:=je _ e.symm;simp only at this;omega);have hzw:=b1.size;have en:=hg.size;have B2:Below X w w2:=by
  have h1:Below X w w1:=b1.mono hX;exact h1.grown hg (Ah hX h1.size) (fun k hk=>(je k hk).1)
 have HSR:=Ae hSR;clear hSR hg je o1 l1 HS b1;generalize hO:w.heap.size=O at *;have HO:=Ae hO;clear hO;go_wp2_with fail;obtain ⟨i0,sy,dw,ed,VZ⟩:=info_parts Iq;go_loopw [7,21] (fun v7 v21 wr=>∃i:Nat,i≤n∧v21=M i∧Gq wr w2 B v7 (((gs.take i).foldl Ci []).map fun z=>z.1::z.2)∧Below w2 w2 wr) (fun _ v21 _=>n-(intOf v21).toNat)
 case atStart=>exact ⟨0,qB,rfl,Gq.nil _ _ _,Ac _ _⟩
 case round =>
  obtain ⟨i,hi,rfl,hR,dm⟩:=hrel;obtain ⟨wi,rfl⟩:∃w':World,w'=wr:=⟨_,rfl⟩;have HR:=Ae hR;clear hR;have XV:=dm.size;by_cases bj:i<n
  ·obtain ⟨z,hz⟩:∃z,gs[i]? = some z:=⟨_,Ai (by rw [HN.out];exact bj)⟩;obtain ⟨G,rfl,xq⟩:=HSR.out.resolve_left (fun e=>by have:=HN.out;rw [e] at this;simp at this;omega);obtain ⟨pa,pn,pc,e1,e2,e3⟩:=xq i z hz;have d1:=Bb dm e1;have HZ:=Ae (Ax hz (Ax (e2.keep dm) (e3.keep dm)));clear hz xq e1 e2 e3;obtain ⟨ys,ah,FW⟩:=HR.out.ex;obtain ⟨la,lc,hv7⟩:=Fr ah;rw [List.length_map] at ah hv7;have HV:=Ae (Ax hv7 (Ax ah FW));clear ah FW;obtain ⟨L,hL⟩:∃L,L=(gs.take i).foldl Ci []:=⟨_,rfl⟩;rw [←hL] at hv7;have HL:=Ae hL;clear hL;subst hv7;go_wp2_with fail;refine Bt ?_;intro w4 jg;have b4:Below wi wi w4:=by rw [jg];go_grown
   have p4:Z w4 wi 0 (.slice pa pn pc):=by rw [jg];simp [go_sem]
   clear jg;have bw4:Below w2 w2 w4:=dm.trans (b4.mono XV);obtain ⟨u1,u2,u3,u4⟩:=Kf (HV.out.1▸HV.out.2.1);rw [←HL.out] at u2 u3 u4;have HU:=Ae (Ax u2 (Ax u3 u4));clear u1 u2 u3 u4;have afo:=X6 w4 la L.length lc HU.out.2.1 (by have:=Kb (gs.take i) [];rw [←HL.out] at this;simp at this;omega) (fun k=>(ys[k]?).getD (.bool false)) (by
    rcases HU.out.2.2 with ⟨_,h0,_⟩|⟨G',e',_,h1⟩
    ·exact .inl h0
    ·refine .inr ⟨G',0,e',fun k hk=>?_⟩;have vn:k<ys.length:=by rw [HU.out.1];exact hk
     rw [Nat.zero_add,Ai vn,Option.getD_some];exact Bb b4 (h1 k _ (Ai vn))) 150 #[.pointer (E (O+1)),.pointer (E wi)] (Gn func150 qE rfl) (fun k=>∃q,L[k]? = some q∧inM z.1.1 q.1.1=true) (fun k hk W hW=>by
     obtain ⟨q,hq⟩:∃q,L[k]? = some q:=⟨_,Ai hk⟩;have td:q∈gs:=Ki (gs.take i) [] (fun z hz=>List.mem_of_mem_take hz) (fun z hz=>by simp at hz) q (by rw [←HL.out];exact A7 hq);obtain ⟨a',n',c',q1,q2,q3⟩:=HV.out.2.2 k (q.1::q.2) (by rw [←HL.out,List.getElem?_map,hq];rfl);have bW:=xo bw4 hW;have bI:=xo b4 hW;rw [q1,Option.getD_some];refine (Aau W O (O+1) wi (Bb bW o2) (Bb bW l2) B pn pc pa z.1 z.2 (Bb hW p4) (HZ.out.2.1.keep bI) (HSM.out z (A7 HZ.out.1)) B n' c' a' q.1 q.2 (q2.keep bI) (HSM.out q td)).mono ?_;rintro e w' ⟨rfl,hb⟩;exact ⟨_,rfl,⟨fun h=>⟨q,hq,h⟩,fun⟨q',SZ,h⟩=>by rw [hq] at SZ;cases SZ;exact h⟩,hb⟩)
   refine afo.mono ?_;clear afo;rintro e w5 ⟨r,rfl,hr,dx⟩;have b5:=xo b4 dx;have p5:=Bb dx p4;have bw5:Below w2 w2 w5:=dm.trans (b5.mono XV);have a3d:=dx.size;have a3e:=b4.size;have kp5:wi.heap.size<w5:=Aa _ _ p5;have iv:=Y6 HZ.out.1;rw [←HL.out] at iv;have hLS:Ci L z=if r=true then L else L++[z]:=by
    unfold Ci;have:L.any (fun q=>inM z.1.1 q.1.1)=r:=by
     rw [Bool.eq_iff_iff,hr,List.any_eq_true];constructor
     ·rintro ⟨q,hq,h⟩;obtain ⟨k,hk,e⟩:=List.mem_iff_getElem.1 hq;exact ⟨k,hk,q,by rw [Ai hk,e],h⟩
     ·rintro ⟨k,hk,q,hq,h⟩;exact ⟨q,A7 hq,h⟩
    rw [this]
   have HLS:=Ae (Ax iv hLS);clear iv hLS hr p4 dx d1
   cases r with
   | true =>
    go_wp2_with fail;go_roundw
    case rel=>exact ⟨i+1,qB,by go_num,by rw [HLS.out.1,HLS.out.2,if_pos qX,HL.out,←HV.out.1];exact HR.out.keep b5,bw5⟩
    case measure=>(first|(simp [intOf];omega)|(simp [intOf];done))
   | false =>
    have hlen:L.length≤40:=by have:=Kb (gs.take i) [];rw [←HL.out] at this;simp at this;omega
    go_wp2_with (first|(at_builtin;refine wpList_append_own _ rfl _ _ 59 rfl w2 24 i0 (.slice none 0 0) 1 24 underlying59 sy dw ed VZ rfl qI (.slice la L.length lc) L.length ys rfl (by rw [HL.out];exact Bf (HV.out.1▸HV.out.2.1) qD) (J w5 0) 1 1 [.slice pa pn pc] rfl rfl (cell_one_new _ _ _) (by simp [Value.oneCell']) qN qB zD ?_;intro v7 w7 ie ak _));have pj:w5.ownsRow w2 24 1 (.slice la L.length lc) L.length ys:=by rw [HL.out];exact Bf (HV.out.1▸HV.out.2.1) b5
    have hRN:=Gq.next (w:=w5.alloc (.cells #[.slice pa pn pc] 24)) (w':=w7) (B:=w2.heap.size) (B':=B) (v:=.slice la L.length lc) (v':=v7) (xs:=ys) (L:=L.map fun z=>z.1::z.2) (l:=z.1::z.2) (a:=pa) (n:=pn) (c:=pc) (by rw [List.length_map];exact Bf pj qD) (fun k l hl=>by
     rw [HL.out] at hl;obtain ⟨a',n',c',q1,q2,q3⟩:=HV.out.2.2 k l hl;have bI:=b5.trans ((by go_grown:Below w5 w5 (w5.alloc (.cells #[.slice pa pn pc] 24))).mono b5.size);exact ⟨a',n',c',q1,q2.keep bI,q3.keep bI⟩) (HZ.out.2.1.keep (b5.trans ((by go_grown:Below w5 w5 (w5.alloc (.cells #[.slice pa pn pc] 24))).mono b5.size))) (HZ.out.2.2.keep (b5.trans ((by go_grown:Below w5 w5 (w5.alloc (.cells #[.slice pa pn pc] 24))).mono b5.size))) (by rw [List.length_map];exact ie) ak
    have hB7:Below w2 w2 w7:=(bw5.alloc bw5.size _).grown ak (by simp only [Aj];have:=bw5.size;omega) (fun k hk=>Dj pj k hk);have HRN:=Ae hRN;clear hRN ie ak pj;go_roundw
    case rel=>exact ⟨i+1,qB,by go_num,by rw [HLS.out.1,HLS.out.2,if_neg qI,List.map_append];exact HRN.out,hB7⟩
    case measure=>(first|(simp [intOf];omega)|(simp [intOf];done))
  ·obtain rfl:i=n:=qB;have hT:gs.take i=gs:=As (by have:=HN.out;omega);rw [hT] at HR;obtain ⟨L,hL⟩:∃L,L=gs.foldl Ci []:=⟨_,rfl⟩;rw [←hL] at HR OQ RJ;have HL:=Ae hL;clear hL hT bj hi;obtain ⟨ys,ah,FW⟩:=HR.out.ex;rw [List.length_map] at ah;obtain ⟨la,lc,hv7⟩:=Fr ah;subst hv7;obtain ⟨u1,u2,u3,u4⟩:=Kf ah;have ao4:L.length≤40:=by have:=Kb gs [];rw [←HL.out] at this;simp at this;have:=HN.out;omega
   obtain ⟨m,hm⟩:∃m,m=L.length:=⟨_,rfl⟩;rw [←hm] at ah u2 u3 u4 ao4 OQ;have HV:=Ae (Ax hm (Ax ah (Ax FW (Ax u2 u4))));have hv:(.slice la L.length lc:Value)=.slice la m lc:=by rw [hm]
   rw [hv];clear hm ah FW u1 u2 u4 hv;have hmk:=fun W=>lP 59 24 (.slice none 0 0) underlying59 Iq qI rfl m qB W
   go_wp2_with fail;refine Bx ?_;intro w3 eb;have b3:Below wi wi w3:=by rw [eb];go_grown
   have OB3:Xj w3 O wi m 0 rs:=⟨_,by rw [eb];exact C0 rfl _ _,qH,fun k q hk _=>qB⟩;have hOB:O≤wi.heap.size:=qB;obtain ⟨OB,RM⟩:∃OB,OB=wi.heap.size:=⟨_,rfl⟩;rw [←RM] at OB3 hOB ⊢;have HOB:=Ae RM;have hlw:OB<w3.heap.size:=by rw [eb,RM];simp
   clear eb hmk RM;go_loopw [39] (fun v39 wr=>∃j:Nat,j≤m∧v39=M j∧Xj wr O OB m j rs∧Below wi wi wr∧OB<wr.heap.size) (fun v39 _=>m-(intOf v39).toNat)
   case atStart=>exact ⟨0,qB,by go_num,OB3,b3,hlw⟩
   case round =>
    obtain ⟨j,hj,rfl,hOR,TT,hOl⟩:=hrel;obtain ⟨wj,rfl⟩:∃w':World,w'=wr:=⟨_,rfl⟩;have HOR:=Ae hOR;clear hOR b3 OB3 hlw;by_cases bj:j<m
    ·obtain ⟨z,hz⟩:∃z,L[j]? = some z:=⟨_,Ai (by rw [←HV.out.1];exact bj)⟩;obtain ⟨G,rfl,hGb,ij⟩:=HV.out.2.2.2.2.resolve_left qB;obtain ⟨pa,pn,pc,q1,q2,q3⟩:=HV.out.2.2.1 j (z.1::z.2) (by rw [List.getElem?_map,hz];rfl);have d1:=Bb TT (ij j _ q1);have HZ:=Ae (Ax hz (Ax (q2.keep TT) (q3.keep TT)));have HC:=Ae ij;have jh:=fun W=>cP W G m lc j qB
     obtain ⟨o',he⟩:∃o':Nat,o'=if lc=j+1 then 0 else j+1:=⟨_,rfl⟩
     have DT:m-(j+1)=0∨o'=j+1:=by
      rw [he]
      split
      ·exact .inl qB
      ·exact .inr rfl
     clear hz q1 q2 q3 ij;have hjL:j<L.length:=by rw [←HV.out.1];exact bj
     obtain ⟨ls,hls⟩:∃ls,ls=L.take j++L.drop (j+1):=⟨_,rfl⟩;have afp:ls.length=m-1:=by rw [hls,A8,List.length_take,List.length_drop];have:=HV.out.1;omega
     have hcc:∀W,Below wj wj W→∀A,Z W A 0 (.slice (E G) j lc)→Z W A 1 (.slice (some ⟨G,o',none⟩) (m-(j+1)) (lc-(j+1)))→Θ 151 #[.slice (E A) 2 2] W (fun e w'=>∃al cl L',e=.returned (.slice al ((m-1:Nat):Int).toNat cl)∧m-1≤cl∧(m-1=0∨al=some ⟨L',0,none⟩)∧DIn w' L' 0 ls∧Below W W w'):=fun W hW A x0 x1=>by
      have SF:ys.length=m:=HV.out.2.2.2.1;have one:∀u∈ys,u.oneCell'=true:=fun u hu=>by
       obtain ⟨k,hk⟩:=List.mem_iff_getElem?.1 hu;obtain ⟨y,hy⟩:∃y,L[k]? = some y:=⟨_,Ai (by rw [←HV.out.1,←SF];exact (List.getElem?_eq_some_iff.1 hk).1)⟩;obtain ⟨a',n',c',q1,_,_⟩:=HV.out.2.2.1 k (y.1::y.2) (by rw [List.getElem?_map,hy];rfl);rw [hk] at q1;cases q1;rfl
      have bW:=xo TT hW;refine (kW W A (E G) j lc (ys.take j) qB (by rw [List.length_take];omega) (.inr ⟨G,0,rfl,fun k u hu=>?_⟩) (fun u hu=>one u (List.mem_of_mem_take hu)) (some ⟨G,o',none⟩) (m-(j+1)) (lc-(j+1)) (ys.drop (j+1)) qB (by rw [List.length_drop];omega) (.inr ⟨G,_,rfl,fun k u hu=>?_⟩) (fun u hu=>one u (List.mem_of_mem_drop hu)) qB qB x0 x1).mono ?_
      ·rw [List.getElem?_take] at hu
       split at hu
       ·rw [Sh];exact Bb bW (HC.out k u hu)
       ·cases hu
      ·rw [List.getElem?_drop] at hu;have hk:=(List.getElem?_eq_some_iff.1 hu).1;obtain rfl:o'=j+1:=DT.resolve_left qB;rw [aO];exact Bb bW (HC.out _ u hu)
      ·rintro e w' ⟨v,rfl,ji,hb⟩;obtain ⟨al,cl,rfl⟩:=Fr ji;rw [show j+(m-(j+1))=m-1 from qB] at ji ⊢;obtain ⟨-,-,k3,k4⟩:=Kf ji;have bw':=xo bW hb;have xq:∀(G':Nat),(∀i u,(ys.take j++ys.drop (j+1))[i]? = some u→Z w' G' i u)→DIn w' G' 0 ls:=fun G' hG'=>⟨fun i x l hx=>by
        rw [hls,N7 L j i hjL] at hx;have FL:∃k:Nat,L[k]? = some (x,l)∧(ys.take j++ys.drop (j+1))[i]? = ys[k]?:=by
         rw [N7 ys j i qB]
         split at hx
         ·rename_i h;exact ⟨i,hx,by rw [if_pos h]⟩
         ·rename_i h;exact ⟨i+1,hx,by rw [if_neg h]⟩
        obtain ⟨k,hk,hyk⟩:=FL;obtain ⟨a',n',c',q1,q2,q3⟩:=HV.out.2.2.1 k (x::l) (by rw [List.getElem?_map,hk];rfl);refine ⟨a',n',c',by rw [Nat.zero_add];exact hG' i _ (hyk.trans q1),(q2.keep bw').mono (Ba _),HSM.out (x,l) ?_⟩;exact Ki gs [] (fun z hz=>hz) (fun z hz=>by simp at hz) _ (by rw [←HL.out];exact A7 hk)⟩
       rcases k4 with ⟨rfl,h0,rfl⟩|⟨G',rfl,_,jf⟩
       ·exact ⟨none,0,0,by rw [Int.toNat_natCast],qB,.inl h0,xq 0 (fun i u hu=>by
         have:=(List.getElem?_eq_some_iff.1 hu).1;rw [A8,List.length_take,List.length_drop] at this
         omega),hb⟩
       ·exact ⟨_,cl,G',by rw [Int.toNat_natCast],k3,.inr rfl,xq G' jf,hb⟩
     obtain ⟨f,x,l,y,q,r1,r2,r3,r4⟩:=RJ.out j z HZ.out.1;rw [←hls] at r1;have HCC:=Ae hcc;have HR9:=Ae (Ax afp (Ax r1 (Ax r2 (Ax r3 r4))));have o3:=Bb (xo dm TT) o2;rw [Int.toNat_natCast] at HCC;clear hcc hls afp r1 r2 r3 r4 hjL;have y0:(0:Int)≤(j:Int)+1:=qB;have y1:((j:Int)+1)≤(m:Int):=qB;have y2:((j:Int)+1).toNat=j+1:=qB;have y5:IntKind.i64.wrap ((j:Int)+1)=(j:Int)+1:=IntWalk.i64_in _ qB;have y6:(j:Int)≤(lc:Int):=qB;have y7:(0:Int)≤(j:Int):=qB;go_upto_region 14 with fail
     go_cut [13,14] (fun v13 v14 wc=>∃ra rn rc,v13=.slice ra rn rc∧v14=M 0∧Be wc wj ra rn rc (x::l)∧Below wj wj wc)
     case first =>
      by_cases TU:lc=j+1
      ·subst TU;rw [if_pos rfl] at he;subst he;have y8:(j:Int)≤(j:Int)+1:=qB;exact qAv
      ·have y3:¬lc=j+1:=TU;rw [if_neg TU] at he;subst he;exact qAv
     case rest =>
      obtain ⟨ra,rn,rc,rfl,rfl,hP5,dx⟩:=hcut;obtain ⟨w5,rfl⟩:∃w':World,w'=wc:=⟨_,rfl⟩;have o5:=Bb dx o3;clear HCC he y0 y1 y2 y5 y6 jh;have HP5:=Ae hP5;have HJ5:Below wi wi w5:=xo TT dx;have HO5:=Ae (HOR.out.keep dx);have zl5:OB<w5.heap.size:=Nat.lt_of_lt_of_le hOl dx.size;have v1:IntKind.i64.wrap ((m:Int)-1)=(m:Int)-1:=IntWalk.i64_in _ qB;have v2:IntKind.i64.wrap ((m:Int)-1-(j:Int))=((m-1-j:Nat):Int):=by rw [IntWalk.i64_in _ qB];omega
      have v3:((m:Int)-1-(j:Int))=((m-1-j:Nat):Int):=qB;have v4:m-1-j<m:=qB;have a3n:wi.heap.size≤OB:=by have:=HOB.out;omega
      clear HOR hP5 TT hOl;go_wp2_with fail;refine (gP HP5.out HR9.out.2.2.1).mono ?_;rintro e w6 ⟨ma,mn,mc,rfl,hP6,hO6,ee⟩;have HJ6:Below wi wi w6:=xo HJ5 ee;have zl6:OB<w6.heap.size:=Nat.lt_of_lt_of_le zl5 ee.size;have aft:O≤w5.heap.size:=qB;rw [HR9.out.2.2.2.1] at hP6;have HO6:=Ae (Xj.set (HO5.out.keep ee) qB HR9.out.2.2.2.2 (hP6.mono aft) (hO6.mono aft));obtain ⟨cur,kB,ksz,-⟩:=HO5.out.keep ee;have kf:=kB.frozen (m-1-j);obtain ⟨v9,hv9⟩:∃v9,cur[m-1-j]? = some v9:=⟨_,Array.getElem?_eq_getElem qB⟩;have kc:=kB.cell _ _ hv9;clear hP6 hO6 ee kB hv9;go_wp2_with fail;go_roundw
      case rel=>exact ⟨j+1,qB,by go_num,HO6.out,qD,qL⟩
      case measure=>(first|(simp [intOf];omega)|(simp [intOf];done))
    ·obtain rfl:j=m:=qB;go_wp2_with fail;refine bodyPost_ret (v:=.tuple #[.slice (E OB) j j,M 0]) (by simp [*,results,results83,go_sem]) rfl ?_;obtain ⟨cur,k1,k2,k3⟩:=HOR.out;have rp:=OQ.out;refine ⟨some ⟨OB,0,none⟩,j,by rw [rp],qB,.inr ⟨OB,rfl,fun k q hk=>?_⟩,?_⟩
     ·have ky:=(List.getElem?_eq_some_iff.1 hk).1;rw [List.length_reverse] at ky;rw [List.getElem?_reverse ky] at hk;obtain ⟨a,n,c,e1,e2,e3⟩:=k3 (rs.length-1-k) q qB hk;rw [show j-1-(rs.length-1-k)=k from qB] at e1;exact ⟨a,n,c,k1.cell _ _ e1,by rw [HO.out];exact e2,by rw [HO.out];exact e3⟩
     ·have c1:=B2.trans (dm.mono qB);exact c1.trans (TT.mono qB)
end Go.Proofs.YtfijkfdfbnfmmaaGreatDoor
end
