/- Plain words for the document's long division. -/
import Derived.Test.YtnnhcbeiogaknaaGreatDoorQT10
set_option linter.unusedSimpArgs false
set_option linter.unusedVariables false
set_option maxRecDepth 100000
set_option maxHeartbeats 4000000
section
namespace Go.Proofs.YtnnhcbeiogaknaaGreatDoor
theorem zX {d:List Nat} {m:Nat} (h:∀x∈d,x<1000000000) (hl:d.length=m) (hm:1≤m):val d<1000000000 ^ (m-1)*(d.getD (m-1) 0+1):=by
 have h1:=J0 (l:=d) (k:=m-1) qA;have h2:=Fw h (m-1) qA;rw [Nat.mul_add];omega
theorem jY {d:List Nat} {m:Nat} (h:Ej d) (hl:d.length=m) (hm:1≤m):1000000000 ^ (m-1)≤val d:=by
 have h1:=J0 (l:=d) (k:=m-1) qA;have h2:=dJ h hl hm;have:1000000000 ^ (m-1)*1≤1000000000 ^ (m-1)*d.getD (m-1) 0:=At _ h2;omega
end Go.Proofs.YtnnhcbeiogaknaaGreatDoor
end
section
namespace Go.Proofs.YtnnhcbeiogaknaaGreatDoor
open Go.RowKit
theorem Fk (x y:Nat):(dg (x*y)).length≤(dg x).length+(dg y).length:=by
 have h1:=Et (dg x) (Ep x);have h2:=Et (dg y) (Ep y);rw [Bo] at h1 h2;have h3:x*y<1000000000 ^ ((dg x).length+(dg y).length):=by rw [Nat.pow_add];exact Nat.mul_lt_mul'' h1 h2
 rcases Nat.lt_or_ge ((dg x).length+(dg y).length) (dg (x*y)).length with h4|h4
 ·exfalso;have h5:=jY (Ce (x*y)) rfl qA;rw [Bo] at h5;have h6:1000000000 ^ ((dg x).length+(dg y).length)≤1000000000 ^ ((dg (x*y)).length-1):=Nat.pow_le_pow_right qA qA;omega
 ·exact h4
theorem gW (w:World) (g1:Bool) (a1:Option Addr) (n1 c1:Nat) (p:Int) (g2:Bool) (a2:Option Addr) (n2 c2:Nat) (q:Int) (h:Bi w g1 a1 n1 c1 p g2 a2 n2 c2 q)
  (g3:Bool) (a3:Option Addr) (n3 c3:Nat) (p':Int) (g4:Bool) (a4:Option Addr) (n4 c4:Nat) (q':Int) (h':Bi w g3 a3 n3 c3 p' g4 a4 n4 c4 q') (hb1:n1≤1000000000) (hb2:n2≤1000000000) (hb3:n3≤1000000000) (hb4:n4≤1000000000) (k1 k2:Value) (D:Int) (hD:(dg D.natAbs).length<35184372088829)
  (hcall:∀(W:World) (gx:Bool) (ax:Option Addr) (nx cx:Nat) (gy:Bool) (ay:Option Addr) (ny cy:Nat),Below w.heap.size w W→Bg W gx ax nx cx (p*q')→Bg W gy ay ny cy (p'*q)→Calls Tryz.prog 95 #[.agg #[.bool gx,.slice ax nx cx],.agg #[.bool gy,.slice ay ny cy],k1,k2] W (E6 W D)) :
  Calls Tryz.prog 94 #[.agg #[.bool g1,.slice a1 n1 c1,.bool g2,.slice a2 n2 c2],.agg #[.bool g3,.slice a3 n3 c3,.bool g4,.slice a4 n4 c4],.func (.func 95) #[] #[k1,k2]] w (D3 w (D/(Int.gcd D (q*q'):Int)) ((q*q')/(Int.gcd D (q*q'):Int))):=by
 have HCL:=Ae hcall;have HDL:=Ae hD;have hqq:0<q*q':=Int.mul_pos h.pos h'.pos;have HQQ:=Ae hqq;have hql:(dg (q*q').natAbs).length≤n2+n4:=by
  exact qDi
 have HQL:=Ae hql;clear hcall hD hqq hql;go_enter Tryz.func94,Tryz.ntmps94;go_wp2_with fail;refine Be ?_;intro w0 hw0;have HB0:Below w.heap.size w w0:=by rw [hw0];go_grown
 have R0:w0.cell? ⟨w.heap.size+1+1,0,none⟩=some (.bool false):=by rw [hw0];simp [go_sem]
 have R1:w0.cell? ⟨w.heap.size+1+1,1,none⟩=some (.slice none 0 0):=by rw [hw0];simp [go_sem]
 have R2:w0.cell? ⟨w.heap.size+1+1,2,none⟩=some (.bool false):=by rw [hw0];simp [go_sem]
 have R3:w0.cell? ⟨w.heap.size+1+1,3,none⟩=some (.slice none 0 0):=by rw [hw0];simp [go_sem]
 have Rf0:w0.frozen? ⟨w.heap.size+1+1,0,none⟩=false:=by rw [hw0];simp [go_sem]
 have Rf1:w0.frozen? ⟨w.heap.size+1+1,1,none⟩=false:=by rw [hw0];simp [go_sem]
 have Rf2:w0.frozen? ⟨w.heap.size+1+1,2,none⟩=false:=by rw [hw0];simp [go_sem]
 have Rf3:w0.frozen? ⟨w.heap.size+1+1,3,none⟩=false:=by rw [hw0];simp [go_sem]
 clear hw0;refine (Iq _ _ _ _ _ _ _ _ _ _ _ (h.keep HB0) _ _ _ _ _ _ _ _ _ _ (h'.keep HB0) hb1 hb2 hb3 hb4).mono ?_;rintro e w1 ⟨gx,ax,nx,cx,gy,ay,ny,cy,gq,aq,nq,cq,rfl,hx,hy,hq,hfx,hfy,hfq,hb⟩;have HB1:=HB0.trans (hb.mono HB0.size)
 (replace Rf0:=(Ab hb (Aa _ _ R0)).trans Rf0;replace Rf1:=(Ab hb (Aa _ _ R1)).trans Rf1;replace Rf2:=(Ab hb (Aa _ _ R2)).trans Rf2;replace Rf3:=(Ab hb (Aa _ _ R3)).trans Rf3;replace R0:=Bb hb R0;replace R1:=Bb hb R1;replace R2:=Bb hb R2;replace R3:=Bb hb R3)
 have hs1:=HB1.size;have hk1:w.heap.size+1+1<w1.heap.size:=Aa _ _ R0;clear hb HB0 hfx hfy hfq;go_upto_region 2 with fail
 (refine By ?_;intro w2 hw2;have M0':w2.cell? ⟨w1.heap.size,0,none⟩=some (.bool gx):=(by rw [hw2];first|assumption|(simp [go_sem];done)|(simp [*,go_sem];done));have M1':w2.cell? ⟨w1.heap.size,1,none⟩=some (.slice ax nx cx):=(by rw [hw2];first|assumption|(simp [go_sem];done)|(simp [*,go_sem];done));have M2':w2.cell? ⟨w1.heap.size,2,none⟩=some (.bool gy):=(by rw [hw2];first|assumption|(simp [go_sem];done)|(simp [*,go_sem];done));have M3':w2.cell? ⟨w1.heap.size,3,none⟩=some (.slice ay ny cy):=(by rw [hw2];first|assumption|(simp [go_sem];done)|(simp [*,go_sem];done));have L0':w2.cell? ⟨w1.heap.size+1,0,none⟩=some (.bool gq):=(by rw [hw2];first|assumption|(simp [go_sem];done)|(simp [*,go_sem];done));have L1':w2.cell? ⟨w1.heap.size+1,1,none⟩=some (.slice aq nq cq):=(by rw [hw2];first|assumption|(simp [go_sem];done)|(simp [*,go_sem];done));have M0:=M0';clear M0';have M1:=M1';clear M1';have M2:=M2';clear M2';have M3:=M3';clear M3';have L0:=L0';clear L0';have L1:=L1';clear L1');have hb12:Below w1.heap.size w1 w2:=by rw [hw2];go_grown
 have hs12:w1.heap.size<w2.heap.size:=by rw [hw2];simp;omega
 (replace Rf0:=(Ab hb12 (Aa _ _ R0)).trans Rf0;replace Rf1:=(Ab hb12 (Aa _ _ R1)).trans Rf1;replace Rf2:=(Ab hb12 (Aa _ _ R2)).trans Rf2;replace Rf3:=(Ab hb12 (Aa _ _ R3)).trans Rf3;replace R0:=Bb hb12 R0;replace R1:=Bb hb12 R1;replace R2:=Bb hb12 R2;replace R3:=Bb hb12 R3)
 have HB2:=HB1.trans (hb12.mono hs1);have hx2:=hx.keep hb12;have hy2:=hy.keep hb12;have hq2:=hq.keep hb12;obtain ⟨M,hM⟩:∃M,M=w1.heap.size:=⟨_,rfl⟩;rw [←hM] at M0 M1 M2 M3 L0 L1 ⊢;have hMr:w.heap.size+1+1<M:=by omega
 have hq3:nq≤n2+n4:=by have h1:=hq2.rd.len;have:=HQL.out;omega
 clear hw2 hb12 HB1 hM hx hy hq hs12;have hk2:w.heap.size+1+1+1≤w2.heap.size:=Aa _ _ R0;have HB:=Ac w2.heap.size w2;go_region_held3 (fun W=>W.cell? ⟨M,0,none⟩=some (.bool gx)∧W.cell? ⟨M,1,none⟩=some (.slice ax nx cx)∧W.cell? ⟨M,2,none⟩=some (.bool gy)∧W.cell? ⟨M,3,none⟩=some (.slice ay ny cy)∧W.cell? ⟨M+1,0,none⟩=some (.bool gq)∧W.cell? ⟨M+1,1,none⟩=some (.slice aq nq cq)) (first|((try dsimp only);(repeat' apply Ay);all_goals (first|(with_reducible assumption)|(go_keep;done)|(simp [*,go_sem];done)))) (first
  | (go_at_call 95;(with_reducible refine (HCL.out _ _ _ _ _ _ _ _ _ (HB2.trans ((by first|assumption|go_grown:Below w2.heap.size w2 _).mono HB2.size)) (hx2.keep qQ) (hy2.keep qQ)).mono ?_);rintro e w3 ⟨gd,ad,nd,cd,rfl,hd,hfd,hb⟩;replace HB:Below w2.heap.size w2 w3:=Al qQ (hb.mono qB);have hsz:=HB.size;(replace Rf0:=(Ab HB (Aa _ _ R0)).trans Rf0;replace Rf1:=(Ab HB (Aa _ _ R1)).trans Rf1;replace Rf2:=(Ab HB (Aa _ _ R2)).trans Rf2;replace Rf3:=(Ab HB (Aa _ _ R3)).trans Rf3;replace M0:=Bb HB M0;replace M1:=Bb HB M1;replace M2:=Bb HB M2;replace M3:=Bb HB M3;replace L0:=Bb HB L0;replace L1:=Bb HB L1;replace R0:=Bb HB R0;replace R1:=Bb HB R1;replace R2:=Bb HB R2;replace R3:=Bb HB R3);have hdl:nd<35184372088829:=(by have h1:=hd.rd.len;have:=HDL.out;omega))
  | (go_at_call 124;(with_reducible refine (Rn _ _ _ _ _ D (hd.keep qU) _ _ _ _ (q*q') (hq2.keep qQ) HQQ.out qA qA).mono ?_);rintro e w4 ⟨ge,ae,ne,ce,gf,af,nf,cf,rfl,hr,hfe,hff,hap,hb4⟩;have hb34:Below w3.heap.size w3 w4:=Al qQ (hb4.mono qB);replace HB:Below w2.heap.size w2 w4:=Al HB (hb34.mono qB);have hsz4:=HB.size;(replace Rf0:=(Ab hb34 (Aa _ _ R0)).trans Rf0;replace Rf1:=(Ab hb34 (Aa _ _ R1)).trans Rf1;replace Rf2:=(Ab hb34 (Aa _ _ R2)).trans Rf2;replace Rf3:=(Ab hb34 (Aa _ _ R3)).trans Rf3;replace M0:=Bb hb34 M0;replace M1:=Bb hb34 M1;replace M2:=Bb hb34 M2;replace M3:=Bb hb34 M3;replace L0:=Bb hb34 L0;replace L1:=Bb hb34 L1;replace R0:=Bb hb34 R0;replace R1:=Bb hb34 R1;replace R2:=Bb hb34 R2;replace R3:=Bb hb34 R3)))
 all_goals
  exact qDr
theorem gY (w:World) (g1:Bool) (a1:Option Addr) (n1 c1:Nat) (p:Int) (g2:Bool) (a2:Option Addr) (n2 c2:Nat) (q:Int) (h:Bi w g1 a1 n1 c1 p g2 a2 n2 c2 q)
  (g3:Bool) (a3:Option Addr) (n3 c3:Nat) (p':Int) (g4:Bool) (a4:Option Addr) (n4 c4:Nat) (q':Int) (h':Bi w g3 a3 n3 c3 p' g4 a4 n4 c4 q') (hb1:n1≤1000000000) (hb2:n2≤1000000000) (hb3:n3≤1000000000) (hb4:n4≤1000000000) (D:Int) (hD:(dg D.natAbs).length<35184372088829)
  (hcall:∀(W:World) (gx:Bool) (ax:Option Addr) (nx cx:Nat) (gy:Bool) (ay:Option Addr) (ny cy:Nat),Below w.heap.size w W→Bg W gx ax nx cx (p*q')→Bg W gy ay ny cy (p'*q)→Calls Tryz.prog 170 #[.agg #[.bool gx,.slice ax nx cx],.agg #[.bool gy,.slice ay ny cy]] W (E6 W D)) :
  Calls Tryz.prog 94 #[.agg #[.bool g1,.slice a1 n1 c1,.bool g2,.slice a2 n2 c2],.agg #[.bool g3,.slice a3 n3 c3,.bool g4,.slice a4 n4 c4],.func (.func 170) #[] #[]] w (D3 w (D/(Int.gcd D (q*q'):Int)) ((q*q')/(Int.gcd D (q*q'):Int))):=by
 have HCL:=Ae hcall;have HDL:=Ae hD;have hqq:0<q*q':=Int.mul_pos h.pos h'.pos;have HQQ:=Ae hqq;have hql:(dg (q*q').natAbs).length≤n2+n4:=by
  exact qDi
 have HQL:=Ae hql;clear hcall hD hqq hql;go_enter Tryz.func94,Tryz.ntmps94;go_wp2_with fail;refine Be ?_;intro w0 hw0;have HB0:Below w.heap.size w w0:=by rw [hw0];go_grown
 have R0:w0.cell? ⟨w.heap.size+1+1,0,none⟩=some (.bool false):=by rw [hw0];simp [go_sem]
 have R1:w0.cell? ⟨w.heap.size+1+1,1,none⟩=some (.slice none 0 0):=by rw [hw0];simp [go_sem]
 have R2:w0.cell? ⟨w.heap.size+1+1,2,none⟩=some (.bool false):=by rw [hw0];simp [go_sem]
 have R3:w0.cell? ⟨w.heap.size+1+1,3,none⟩=some (.slice none 0 0):=by rw [hw0];simp [go_sem]
 have Rf0:w0.frozen? ⟨w.heap.size+1+1,0,none⟩=false:=by rw [hw0];simp [go_sem]
 have Rf1:w0.frozen? ⟨w.heap.size+1+1,1,none⟩=false:=by rw [hw0];simp [go_sem]
 have Rf2:w0.frozen? ⟨w.heap.size+1+1,2,none⟩=false:=by rw [hw0];simp [go_sem]
 have Rf3:w0.frozen? ⟨w.heap.size+1+1,3,none⟩=false:=by rw [hw0];simp [go_sem]
 clear hw0;refine (Iq _ _ _ _ _ _ _ _ _ _ _ (h.keep HB0) _ _ _ _ _ _ _ _ _ _ (h'.keep HB0) hb1 hb2 hb3 hb4).mono ?_;rintro e w1 ⟨gx,ax,nx,cx,gy,ay,ny,cy,gq,aq,nq,cq,rfl,hx,hy,hq,hfx,hfy,hfq,hb⟩;have HB1:=HB0.trans (hb.mono HB0.size)
 (replace Rf0:=(Ab hb (Aa _ _ R0)).trans Rf0;replace Rf1:=(Ab hb (Aa _ _ R1)).trans Rf1;replace Rf2:=(Ab hb (Aa _ _ R2)).trans Rf2;replace Rf3:=(Ab hb (Aa _ _ R3)).trans Rf3;replace R0:=Bb hb R0;replace R1:=Bb hb R1;replace R2:=Bb hb R2;replace R3:=Bb hb R3)
 have hs1:=HB1.size;have hk1:w.heap.size+1+1<w1.heap.size:=Aa _ _ R0;clear hb HB0 hfx hfy hfq;go_upto_region 2 with fail
 (refine By ?_;intro w2 hw2;have M0':w2.cell? ⟨w1.heap.size,0,none⟩=some (.bool gx):=(by rw [hw2];first|assumption|(simp [go_sem];done)|(simp [*,go_sem];done));have M1':w2.cell? ⟨w1.heap.size,1,none⟩=some (.slice ax nx cx):=(by rw [hw2];first|assumption|(simp [go_sem];done)|(simp [*,go_sem];done));have M2':w2.cell? ⟨w1.heap.size,2,none⟩=some (.bool gy):=(by rw [hw2];first|assumption|(simp [go_sem];done)|(simp [*,go_sem];done));have M3':w2.cell? ⟨w1.heap.size,3,none⟩=some (.slice ay ny cy):=(by rw [hw2];first|assumption|(simp [go_sem];done)|(simp [*,go_sem];done));have L0':w2.cell? ⟨w1.heap.size+1,0,none⟩=some (.bool gq):=(by rw [hw2];first|assumption|(simp [go_sem];done)|(simp [*,go_sem];done));have L1':w2.cell? ⟨w1.heap.size+1,1,none⟩=some (.slice aq nq cq):=(by rw [hw2];first|assumption|(simp [go_sem];done)|(simp [*,go_sem];done));have M0:=M0';clear M0';have M1:=M1';clear M1';have M2:=M2';clear M2';have M3:=M3';clear M3';have L0:=L0';clear L0';have L1:=L1';clear L1');have hb12:Below w1.heap.size w1 w2:=by rw [hw2];go_grown
 have hs12:w1.heap.size<w2.heap.size:=by rw [hw2];simp;omega
 (replace Rf0:=(Ab hb12 (Aa _ _ R0)).trans Rf0;replace Rf1:=(Ab hb12 (Aa _ _ R1)).trans Rf1;replace Rf2:=(Ab hb12 (Aa _ _ R2)).trans Rf2;replace Rf3:=(Ab hb12 (Aa _ _ R3)).trans Rf3;replace R0:=Bb hb12 R0;replace R1:=Bb hb12 R1;replace R2:=Bb hb12 R2;replace R3:=Bb hb12 R3)
 have HB2:=HB1.trans (hb12.mono hs1);have hx2:=hx.keep hb12;have hy2:=hy.keep hb12;have hq2:=hq.keep hb12;obtain ⟨M,hM⟩:∃M,M=w1.heap.size:=⟨_,rfl⟩;rw [←hM] at M0 M1 M2 M3 L0 L1 ⊢;have hMr:w.heap.size+1+1<M:=by omega
 have hq3:nq≤n2+n4:=by have h1:=hq2.rd.len;have:=HQL.out;omega
 clear hw2 hb12 HB1 hM hx hy hq hs12;have hk2:w.heap.size+1+1+1≤w2.heap.size:=Aa _ _ R0;have HB:=Ac w2.heap.size w2;go_region_held3 (fun W=>W.cell? ⟨M,0,none⟩=some (.bool gx)∧W.cell? ⟨M,1,none⟩=some (.slice ax nx cx)∧W.cell? ⟨M,2,none⟩=some (.bool gy)∧W.cell? ⟨M,3,none⟩=some (.slice ay ny cy)∧W.cell? ⟨M+1,0,none⟩=some (.bool gq)∧W.cell? ⟨M+1,1,none⟩=some (.slice aq nq cq)) (first|((try dsimp only);(repeat' apply Ay);all_goals (first|(with_reducible assumption)|(go_keep;done)|(simp [*,go_sem];done)))) (first
  | (go_at_call 170;(with_reducible refine (HCL.out _ _ _ _ _ _ _ _ _ (HB2.trans ((by first|assumption|go_grown:Below w2.heap.size w2 _).mono HB2.size)) (hx2.keep qQ) (hy2.keep qQ)).mono ?_);rintro e w3 ⟨gd,ad,nd,cd,rfl,hd,hfd,hb⟩;replace HB:Below w2.heap.size w2 w3:=Al qQ (hb.mono qB);have hsz:=HB.size;(replace Rf0:=(Ab HB (Aa _ _ R0)).trans Rf0;replace Rf1:=(Ab HB (Aa _ _ R1)).trans Rf1;replace Rf2:=(Ab HB (Aa _ _ R2)).trans Rf2;replace Rf3:=(Ab HB (Aa _ _ R3)).trans Rf3;replace M0:=Bb HB M0;replace M1:=Bb HB M1;replace M2:=Bb HB M2;replace M3:=Bb HB M3;replace L0:=Bb HB L0;replace L1:=Bb HB L1;replace R0:=Bb HB R0;replace R1:=Bb HB R1;replace R2:=Bb HB R2;replace R3:=Bb HB R3);have hdl:nd<35184372088829:=(by have h1:=hd.rd.len;have:=HDL.out;omega))
  | (go_at_call 124;(with_reducible refine (Rn _ _ _ _ _ D (hd.keep qU) _ _ _ _ (q*q') (hq2.keep qQ) HQQ.out qA qA).mono ?_);rintro e w4 ⟨ge,ae,ne,ce,gf,af,nf,cf,rfl,hr,hfe,hff,hap,hb4⟩;have hb34:Below w3.heap.size w3 w4:=Al qQ (hb4.mono qB);replace HB:Below w2.heap.size w2 w4:=Al HB (hb34.mono qB);have hsz4:=HB.size;(replace Rf0:=(Ab hb34 (Aa _ _ R0)).trans Rf0;replace Rf1:=(Ab hb34 (Aa _ _ R1)).trans Rf1;replace Rf2:=(Ab hb34 (Aa _ _ R2)).trans Rf2;replace Rf3:=(Ab hb34 (Aa _ _ R3)).trans Rf3;replace M0:=Bb hb34 M0;replace M1:=Bb hb34 M1;replace M2:=Bb hb34 M2;replace M3:=Bb hb34 M3;replace L0:=Bb hb34 L0;replace L1:=Bb hb34 L1;replace R0:=Bb hb34 R0;replace R1:=Bb hb34 R1;replace R2:=Bb hb34 R2;replace R3:=Bb hb34 R3)))
 all_goals
  exact qDr
theorem Yz (x y:Nat):(dg (x+y)).length≤(dg x).length+(dg y).length+1:=by
 have h1:=Et (dg x) (Ep x);have h2:=Et (dg y) (Ep y);rw [Bo] at h1 h2;obtain ⟨m,hm⟩:∃m,m=(dg x).length+(dg y).length:=⟨_,rfl⟩;have h3:1000000000 ^ (dg x).length≤1000000000 ^ m:=Nat.pow_le_pow_right qA qA;have h4:1000000000 ^ (dg y).length≤1000000000 ^ m:=Nat.pow_le_pow_right qA qA;have h5:x+y<1000000000 ^ (m+1):=by rw [Nat.pow_succ];omega
 rw [←hm];rcases Nat.lt_or_ge (m+1) (dg (x+y)).length with h6|h6
 ·exfalso;have h7:=jY (Ce (x+y)) rfl qA;rw [Bo] at h7;have h8:1000000000 ^ (m+1)≤1000000000 ^ ((dg (x+y)).length-1):=Nat.pow_le_pow_right qA qA;omega
 ·exact h6
theorem Ec (x y:Int):(dg (x*y).natAbs).length≤(dg x.natAbs).length+(dg y.natAbs).length:=by rw [Int.natAbs_mul];exact Fk _ _
theorem Wj (x y:Int):(dg (x+y).natAbs).length≤(dg x.natAbs).length+(dg y.natAbs).length+1 :=
 Ah (Bn (Int.natAbs_add_le x y)) (Yz _ _)
def Fj (a b:Int):Int:=a/(Int.gcd a b:Int)
def Fr (a b:Int):Int:=b/(Int.gcd a b:Int)
theorem sG (w:World) (g:Bool) (a:Option Addr) (n c:Nat) (z:Int) (h:Bg w g a n c z) (g':Bool) (a':Option Addr) (n' c':Nat) (z':Int) (h':Bg w g' a' n' c' z') (hb1:n<35184372088829) (hb2:n'<35184372088829) :
  Calls Tryz.prog 170 #[.agg #[.bool g,.slice a n c],.agg #[.bool g',.slice a' n' c']] w (E6 w (z+z')):=by
 have HB:=Ac w.heap.size w;go_enter Tryz.func170,Tryz.ntmps170;go_wp2_with fail;refine (Xk _ _ _ _ _ z (h.keep qF) _ _ _ _ z' (h'.keep qF) qA qA).mono ?_;rintro e w1 ⟨g3,a3,n3,c3,rfl,hn3,hfr3,hb⟩;obtain ⟨hc,hf⟩:=Bl hb;have hz:=hb.size;(try simp only [Aj,Ak] at hz);replace HB:=zI w hb;obtain ⟨s0_0,s0_1⟩:=qZ hc (w.heap.size) (.bool g) (.slice a n c);obtain ⟨s1_0,s1_1⟩:=qZ hc (w.heap.size+1) (.bool g') (.slice a' n' c');obtain ⟨s2_0,s2_1⟩:=zE hc (w.heap.size+1+1);obtain ⟨f2_0,f2_1⟩:=zF hf (w.heap.size+1+1);have hk1:w.heap.size+1+1<w1.heap.size:=by omega
 have hf3:Bf (w.heap.size+1+1+1) w1 a3 c3:=hfr3.mono qB;clear hc hf hb hz hfr3;go_wp2_with fail;refine bodyPost_ret (v:=.agg #[.bool g3,.slice a3 n3 c3]) (by simp [results,Tryz.results170,go_sem,s2_0,s2_1]) rfl ?_;exact qBf
theorem tU (w:World) (g1:Bool) (a1:Option Addr) (n1 c1:Nat) (p:Int) (g2:Bool) (a2:Option Addr) (n2 c2:Nat) (q:Int) (h:Bi w g1 a1 n1 c1 p g2 a2 n2 c2 q)
  (g3:Bool) (a3:Option Addr) (n3 c3:Nat) (p':Int) (g4:Bool) (a4:Option Addr) (n4 c4:Nat) (q':Int) (h':Bi w g3 a3 n3 c3 p' g4 a4 n4 c4 q') (hb1:n1≤1000000000) (hb2:n2≤1000000000) (hb3:n3≤1000000000) (hb4:n4≤1000000000) :
  Calls Tryz.prog 102 #[.agg #[.bool g1,.slice a1 n1 c1,.bool g2,.slice a2 n2 c2],.agg #[.bool g3,.slice a3 n3 c3,.bool g4,.slice a4 n4 c4]] w (D3 w (Fj (p*q'+p'*q) (q*q')) (Fr (p*q'+p'*q) (q*q'))):=by
 have HB:=Ac w.heap.size w;have e1:=h.top.rd.len;have e2:=h.low.rd.len;have e3:=h'.top.rd.len;have e4:=h'.low.rd.len;have i1:=Ec p q';have i2:=Ec p' q;have i3:=Wj (p*q') (p'*q);have HD:Hid ((dg (p*q'+p'*q).natAbs).length<35184372088829∧(dg (p*q').natAbs).length<35184372088829∧(dg (p'*q).natAbs).length<35184372088829):=Ae qA;clear e1 e2 e3 e4 i1 i2 i3;go_enter Tryz.func102,Tryz.ntmps102;go_wp2_with fail;refine Be ?_;intro w0 hw0;have HB0:Below w.heap.size w w0:=by rw [hw0];go_grown
 have R0:w0.cell? ⟨w.heap.size+1+1,0,none⟩=some (.bool false):=by rw [hw0];simp [go_sem]
 have R1:w0.cell? ⟨w.heap.size+1+1,1,none⟩=some (.slice none 0 0):=by rw [hw0];simp [go_sem]
 have R2:w0.cell? ⟨w.heap.size+1+1,2,none⟩=some (.bool false):=by rw [hw0];simp [go_sem]
 have R3:w0.cell? ⟨w.heap.size+1+1,3,none⟩=some (.slice none 0 0):=by rw [hw0];simp [go_sem]
 have Rf0:w0.frozen? ⟨w.heap.size+1+1,0,none⟩=false:=by rw [hw0];simp [go_sem]
 have Rf1:w0.frozen? ⟨w.heap.size+1+1,1,none⟩=false:=by rw [hw0];simp [go_sem]
 have Rf2:w0.frozen? ⟨w.heap.size+1+1,2,none⟩=false:=by rw [hw0];simp [go_sem]
 have Rf3:w0.frozen? ⟨w.heap.size+1+1,3,none⟩=false:=by rw [hw0];simp [go_sem]
 have hk0:w.heap.size+1+1+1≤w0.heap.size:=Aa _ _ R0;clear hw0;refine (gY _ _ _ _ _ _ _ _ _ _ _ (h.keep HB0) _ _ _ _ _ _ _ _ _ _ (h'.keep HB0) hb1 hb2 hb3 hb4 (p*q'+p'*q) HD.out.1 (fun W gx ax nx cx gy ay ny cy hW hx hy=>sG W gx ax nx cx _ hx gy ay ny cy _ hy (by have:=hx.rd.len;have:=HD.out.2.1;omega) (by have:=hy.rd.len;have:=HD.out.2.2;omega))).mono ?_;rintro e w1 ⟨ge,ae,ne,ce,gf,af,nf,cf,rfl,hr,hfe,hff,hap,hb⟩;have HB1:=HB0.trans (hb.mono HB0.size)
 (replace Rf0:=(Ab hb (Aa _ _ R0)).trans Rf0;replace Rf1:=(Ab hb (Aa _ _ R1)).trans Rf1;replace Rf2:=(Ab hb (Aa _ _ R2)).trans Rf2;replace Rf3:=(Ab hb (Aa _ _ R3)).trans Rf3;replace R0:=Bb hb R0;replace R1:=Bb hb R1;replace R2:=Bb hb R2;replace R3:=Bb hb R3)
 have fe:Bf (w.heap.size+1+1+1) w1 ae ce:=hfe.mono hk0;have ff:Bf (w.heap.size+1+1+1) w1 af cf:=hff.mono hk0;have u2:w.heap.size+1+1<w.heap.size+1+1+1:=Ag _;clear hb HB0 hfe hff;go_wp2_with fail;refine bodyPost_ret (v:=.agg #[.bool ge,.slice ae ne ce,.bool gf,.slice af nf cf]) (by simp [results,Tryz.results102,go_sem,R0,R1,R2,R3]) rfl ?_;exact qAs
theorem oE (w:World) (A B:Nat) (gi:Bool) (ai:Option Addr) (ni ci:Nat) (gj:Bool) (aj:Option Addr) (nj cj:Nat) (g:Bool) (a:Option Addr) (n c:Nat) (z:Int) (h:Bg w g a n c z) (g':Bool) (a':Option Addr) (n' c':Nat) (z':Int) (h':Bg w g' a' n' c' z') (hb1:n<17592186044416) (hb2:n'<17592186044416)
  (h1:w.cell? ⟨A,0,none⟩=some (.bool g)) (h2:w.cell? ⟨A,1,none⟩=some (.slice a n c)) (h3:w.cell? ⟨B,0,none⟩=some (.bool g')) (h4:w.cell? ⟨B,1,none⟩=some (.slice a' n' c')) :
  Calls Tryz.prog 95 #[.agg #[.bool gi,.slice ai ni ci],.agg #[.bool gj,.slice aj nj cj],.pointer (some ⟨A,0,none⟩),.pointer (some ⟨B,0,none⟩)] w (E6 w (z*z')):=by
 have HB:=Ac w.heap.size w;have hA:=Aa _ _ h1;have hB:=Aa _ _ h3;have W3:Below w.heap.size w (((w.alloc (.cells #[.bool gi,.slice ai ni ci] 32)).alloc (.cells #[.bool gj,.slice aj nj cj] 32)).alloc (.cells #[.bool false,.slice none 0 0] 32)):=by go_grown
 have k1:=Bb W3 h1;have k2:=Bb W3 h2;have k3:=Bb W3 h3;have k4:=Bb W3 h4;go_enter Tryz.func95,Tryz.ntmps95;go_wp2_with fail;refine (Xq _ _ _ _ _ z (h.keep qF) _ _ _ _ z' (h'.keep qF) qA qA).mono ?_;rintro e w1 ⟨g3,a3,n3,c3,rfl,hn3,hfr3,hb⟩;obtain ⟨hc,hf⟩:=Bl hb;have hz:=hb.size;(try simp only [Aj,Ak] at hz);replace HB:=zI w hb;obtain ⟨s0_0,s0_1⟩:=qZ hc (w.heap.size) (.bool gi) (.slice ai ni ci);obtain ⟨s1_0,s1_1⟩:=qZ hc (w.heap.size+1) (.bool gj) (.slice aj nj cj);obtain ⟨s2_0,s2_1⟩:=zE hc (w.heap.size+1+1);obtain ⟨f2_0,f2_1⟩:=zF hf (w.heap.size+1+1);have hk1:w.heap.size+1+1<w1.heap.size:=by omega
 have hf3:Bf (w.heap.size+1+1+1) w1 a3 c3:=hfr3.mono qB;clear hc hf hb hz hfr3;go_wp2_with fail;refine bodyPost_ret (v:=.agg #[.bool g3,.slice a3 n3 c3]) (by simp [results,Tryz.results95,go_sem,s2_0,s2_1]) rfl ?_;exact qBf
abbrev PC:=Int×Int
abbrev PT:=Nat×Int×Int
def Ll (c d:PC):PC:=(Fj (c.1*d.2+d.1*c.2) (c.2*d.2),Fr (c.1*d.2+d.1*c.2) (c.2*d.2))
def Ct (c d:PC):PC:=(Fj (c.1*d.1) (c.2*d.2),Fr (c.1*d.1) (c.2*d.2))
structure CW (c:PC):Prop where
 pos:0<c.2
 red:Int.gcd c.1 c.2=1
theorem rZ {a b:Int} (hb:0<b):0<Fr a b:=by
 unfold Fr;have hg:0<Int.gcd a b:=Int.gcd_pos_of_ne_zero_right _ qA;have hd:(Int.gcd a b:Int)∣b:=Int.gcd_dvd_right ..;obtain ⟨k,hk⟩:=hd;have hg':(0:Int)<(Int.gcd a b:Int):=by exact_mod_cast hg
 have:b/(Int.gcd a b:Int)=k:=by
  conv=>lhs;rw [hk]
  rw [←hk];exact Int.ediv_eq_of_eq_mul_right qA hk
 rw [this];have hk':0<(Int.gcd a b:Int)*k:=by rw [←hk];exact hb
 exact Int.pos_of_mul_pos_right hk' qA
theorem rA {a b:Int} (hb:0<b):Int.gcd (Fj a b) (Fr a b)=1:=by
 unfold Fj Fr;have hg:0<Int.gcd a b:=Int.gcd_pos_of_ne_zero_right _ qA;exact Int.gcd_ediv_gcd_ediv_gcd hg
theorem CW.low {a b:Int} (hb:0<b):CW (Fj a b,Fr a b):=⟨rZ hb,rA hb⟩
theorem CW.add {c d:PC} (hc:CW c) (hd:CW d):CW (Ll c d):=CW.low (Int.mul_pos hc.pos hd.pos)
theorem CW.mul {c d:PC} (hc:CW c) (hd:CW d):CW (Ct c d):=CW.low (Int.mul_pos hc.pos hd.pos)
theorem Vy {a b:Int} (h:Int.gcd a b=1):Fj a b=a:=by unfold Fj;rw [h];simp
theorem Uq {a b:Int} (h:Int.gcd a b=1):Fr a b=b:=by unfold Fr;rw [h];simp
theorem Ke {c:PC} (hc:CW c):Ct c (1,1)=c:=by
 unfold Ct;simp only [Int.mul_one];rw [Vy hc.red,Uq hc.red]
abbrev Cx (l:List PT):Prop:=l.Pairwise (fun a b=>b.1<a.1)
abbrev Jk (l:List PT):Prop:=∀t∈l,CW t.2∧t.2.1≠0
structure PW (l:List PT):Prop where
 falls:Cx l
 good:Jk l
 key:∀t∈l,t.1<18446744073709551616
def lk:List PT→Nat→Option PC
 | [],_=>none
 | t::l,k=>if t.1=k then some t.2 else lk l k
theorem Ji (t:PT) (l:List PT) (k:Nat):lk (t::l) k=if t.1=k then some t.2 else lk l k:=rfl
theorem aC {l:List PT} {k:Nat} (h:∀t∈l,t.1≠k):lk l k=none:=by
 induction l with
 | nil=>rfl
 | cons t l ih =>
  rw [lk,if_neg (h t qG)];exact ih fun t' h'=>h t' (by simp [h'])
theorem Id {l:List PT} {k:Nat} {c:PC} (h:lk l k=some c):(k,c)∈l:=by
 induction l with
 | nil=>cases h
 | cons t l ih =>
  rw [lk] at h
  split at h
  ·next e=>cases h;subst e;simp
  ·simp [ih h]
theorem Iw {l:List PT} (hf:Cx l) {k:Nat} {c:PC} (h:(k,c)∈l):lk l k=some c:=by
 induction l with
 | nil=>cases h
 | cons t l ih =>
  obtain ⟨h1,h2⟩:=List.pairwise_cons.1 hf;rw [lk];rcases List.mem_cons.1 h with rfl|h
  ·simp
  ·have:=h1 _ h;rw [if_neg (by simp at this;omega)];exact ih h2 h
theorem Kx:∀{l l':List PT},Cx l→Cx l'→(∀t,t∈l↔t∈l')→l=l'
 | [],[],_,_,_=>rfl
 | [],t::l',_,_,h=>by have:=(h t).2 qG;cases this
 | t::l,[],_,_,h=>by have:=(h t).1 qG;cases this
 | t::l,t'::l',hf,hf',h=>by
  obtain ⟨h1,h2⟩:=List.pairwise_cons.1 hf;obtain ⟨h1',h2'⟩:=List.pairwise_cons.1 hf';have e:t=t':=by
   rcases List.mem_cons.1 ((h t).1 qG) with e|m
   ·exact e
   ·rcases List.mem_cons.1 ((h t').2 qG) with e'|m'
    ·exact e'.symm
    ·have a:=h1 _ m';have b:=h1' _ m;omega
  subst e;rw [Kx h2 h2' fun x=>?_];constructor
  ·intro hx;rcases List.mem_cons.1 ((h x).1 (by simp [hx])) with e|m
   ·subst e;have:=h1 _ hx;omega
   ·exact m
  ·intro hx;rcases List.mem_cons.1 ((h x).2 (by simp [hx])) with e|m
   ·subst e;have:=h1' _ hx;omega
   ·exact m
def Cr:List PT→List PT→List PT
 | [],b=>b
 | x::a,[]=>x::a
 | x::a,y::b =>
  if y.1<x.1 then x::Cr a (y::b)
  else if x.1<y.1 then y::Cr (x::a) b
  else if (Ll x.2 y.2).1=0 then Cr a b else (x.1,Ll x.2 y.2)::Cr a b
termination_by a b=>a.length+b.length
theorem nB (a:List PT):Cr a []=a:=by cases a<;>simp [Cr]
def Vt:Option PC→Option PC→Option PC
 | none,y=>y
 | some c,none=>some c
 | some c,some d=>if (Ll c d).1=0 then none else some (Ll c d)
theorem Ty (x:Option PC):Vt x none=x:=by cases x<;>rfl
theorem Lc (a b:List PT) (K:Nat) (ha:∀t∈a,t.1<K) (hb:∀t∈b,t.1<K):∀t∈Cr a b,t.1<K:=by
 induction a,b using Cr.induct with
 | case1 b=>simpa [Cr] using hb
 | case2 x a=>simpa [Cr] using ha
 | case3 x a y b hlt ih =>
  exact qDa
 | case4 x a y b h1 h2 ih =>
  exact qCu
 | case5 x a y b h1 h2 h3 ih =>
  exact qDh
 | case6 x a y b h1 h2 h3 ih =>
  rw [Cr,if_neg h1,if_neg h2,if_neg h3];intro t ht;rcases List.mem_cons.1 ht with rfl|ht
  ·exact ha x qG
  ·exact ih (fun t h=>ha t (by simp [h])) (fun t h=>hb t (by simp [h])) t ht
theorem Mf (a b:List PT) (ha:Cx a) (hb:Cx b):Cx (Cr a b):=by
 induction a,b using Cr.induct with
 | case1 b=>simpa [Cr] using hb
 | case2 x a=>simpa [Cr] using ha
 | case3 x a y b hlt ih =>
  obtain ⟨h1,h2⟩:=List.pairwise_cons.1 ha;obtain ⟨k1,k2⟩:=List.pairwise_cons.1 hb;rw [Cr,if_pos hlt];refine List.pairwise_cons.2 ⟨Lc _ _ _ h1 (fun t ht=>?_),ih h2 hb⟩;rcases List.mem_cons.1 ht with rfl|ht
  ·exact hlt
  ·have:=k1 _ ht;omega
 | case4 x a y b hn hlt ih =>
  obtain ⟨h1,h2⟩:=List.pairwise_cons.1 ha;obtain ⟨k1,k2⟩:=List.pairwise_cons.1 hb;rw [Cr,if_neg hn,if_pos hlt];refine List.pairwise_cons.2 ⟨Lc _ _ _ (fun t ht=>?_) k1,ih ha k2⟩;rcases List.mem_cons.1 ht with rfl|ht
  ·exact hlt
  ·have:=h1 _ ht;omega
 | case5 x a y b h1 h2 h3 ih =>
  rw [Cr,if_neg h1,if_neg h2,if_pos h3];exact ih (List.pairwise_cons.1 ha).2 (List.pairwise_cons.1 hb).2
 | case6 x a y b hn hm h3 ih =>
  obtain ⟨h1,h2⟩:=List.pairwise_cons.1 ha;obtain ⟨k1,k2⟩:=List.pairwise_cons.1 hb;rw [Cr,if_neg hn,if_neg hm,if_neg h3];refine List.pairwise_cons.2 ⟨Lc _ _ _ h1 (fun t ht=>?_),ih h2 k2⟩;have:=k1 _ ht;show t.1<x.1;omega
theorem Ik {l:List PT} {k:Nat} (h:∀t∈l,t.1<k):lk l k=none:=aC fun t ht e=>by have:=h t ht;omega
theorem pT (a b:List PT) (ha:Cx a) (hb:Cx b) (k:Nat):lk (Cr a b) k=Vt (lk a k) (lk b k):=by
 induction a,b using Cr.induct with
 | case1 b=>simp [Cr,lk,Vt]
 | case2 x a=>simp [Cr,lk,Ty]
 | case3 x a y b hlt ih =>
  obtain ⟨h1,h2⟩:=List.pairwise_cons.1 ha;obtain ⟨k1,k2⟩:=List.pairwise_cons.1 hb;rw [Cr,if_pos hlt,lk];by_cases e:x.1=k
  ·have hn:lk (y::b) k=none:=Ik fun t ht=>by
    rcases List.mem_cons.1 ht with rfl|ht
    ·omega
    ·have:=k1 _ ht;omega
   rw [if_pos e,hn,Ty,lk,if_pos e]
  ·rw [if_neg e,ih h2 hb,Ji x a k,if_neg e]
 | case4 x a y b hn hlt ih =>
  obtain ⟨h1,h2⟩:=List.pairwise_cons.1 ha;obtain ⟨k1,k2⟩:=List.pairwise_cons.1 hb;rw [Cr,if_neg hn,if_pos hlt,lk];by_cases e:y.1=k
  ·have hn:lk (x::a) k=none:=Ik fun t ht=>by
    rcases List.mem_cons.1 ht with rfl|ht
    ·omega
    ·have:=h1 _ ht;omega
   rw [if_pos e,hn,lk,if_pos e];rfl
  ·rw [if_neg e,ih ha k2,Ji y b k,if_neg e]
 | case5 x a y b hn hm h3 ih =>
  obtain ⟨h1,h2⟩:=List.pairwise_cons.1 ha;obtain ⟨k1,k2⟩:=List.pairwise_cons.1 hb;rw [Cr,if_neg hn,if_neg hm,if_pos h3,ih h2 k2,Ji x a k,Ji y b k];have exy:x.1=y.1:=by omega
  by_cases e:x.1=k
  ·have e':y.1=k:=by omega
   rw [if_pos e,if_pos e',Ik (by rw [←e];exact h1),Ik (by rw [←e'];exact k1)];simp [Vt,h3]
  ·have e':¬y.1=k:=by omega
   rw [if_neg e,if_neg e']
 | case6 x a y b hn hm h3 ih =>
  obtain ⟨h1,h2⟩:=List.pairwise_cons.1 ha;obtain ⟨k1,k2⟩:=List.pairwise_cons.1 hb;rw [Cr,if_neg hn,if_neg hm,if_neg h3,lk,Ji x a k,Ji y b k];have exy:x.1=y.1:=by omega
  by_cases e:x.1=k
  ·have e':y.1=k:=by omega
   rw [if_pos e,if_pos e',if_pos (by exact e)];simp [Vt,h3]
  ·have e':¬y.1=k:=by omega
   rw [if_neg e,if_neg e',if_neg (by exact e),ih h2 k2]
theorem fX (a b:List PT) (ha:Jk a) (hb:Jk b):Jk (Cr a b):=by
 induction a,b using Cr.induct with
 | case1 b=>simpa [Cr] using hb
 | case2 x a=>simpa [Cr] using ha
 | case3 x a y b hlt ih =>
  exact qDa
 | case4 x a y b h1 h2 ih =>
  exact qCu
 | case5 x a y b h1 h2 h3 ih =>
  exact qDh
 | case6 x a y b h1 h2 h3 ih =>
  rw [Cr,if_neg h1,if_neg h2,if_neg h3];intro t ht;rcases List.mem_cons.1 ht with rfl|ht
  ·exact ⟨(ha x qG).1.add (hb y qG).1,h3⟩
  ·exact ih (fun t h=>ha t (by simp [h])) (fun t h=>hb t (by simp [h])) t ht
theorem PW.add {a b:List PT} (ha:PW a) (hb:PW b):PW (Cr a b) :=
 ⟨Mf a b ha.falls hb.falls,fX a b ha.good hb.good,Lc a b _ ha.key hb.key⟩
theorem Pi (a b:List PT):(Cr a b).length≤a.length+b.length:=by
 induction a,b using Cr.induct with
 | case1 b=>simp [Cr]
 | case2 x a=>simp [Cr]
 | case3 x a y b hlt ih=>rw [Cr,if_pos hlt];simp at *;omega
 | case4 x a y b h1 h2 ih=>rw [Cr,if_neg h1,if_pos h2];simp at *;omega
 | case5 x a y b h1 h2 h3 ih=>rw [Cr,if_neg h1,if_neg h2,if_pos h3];simp at *;omega
 | case6 x a y b h1 h2 h3 ih=>rw [Cr,if_neg h1,if_neg h2,if_neg h3];simp at *;omega
def Gy (f:Nat→Option PC) (t:PT):Nat→Option PC:=fun k=>if k=t.1 then some (match f t.1 with|none=>t.2|some c=>Ll c t.2) else f k
def Dl (l:List PT):Nat→Option PC:=l.foldl Gy (fun _=>none)
theorem K6 (l:List PT) (t:PT):Dl (l++[t])=Gy (Dl l) t:=by simp [Dl]
theorem Oa (l:List PT) (hl:Cx l) (f:Nat→Option PC) (k:Nat):l.foldl Gy f k=(match lk l k,f k with|none,y=>y|some c,none=>some c|some c,some d=>some (Ll d c)):=by
 induction l generalizing f with
 | nil=>simp [lk]
 | cons t l ih =>
  obtain ⟨h1,h2⟩:=List.pairwise_cons.1 hl;rw [List.foldl_cons,ih h2,lk];by_cases e:t.1=k
  ·rw [Ik (by rw [←e];exact h1),if_pos e,Gy,if_pos e.symm,e]
   cases f k<;>rfl
  ·rw [if_neg e,Gy,if_neg qA]
theorem Xy (a b:List PT) (ha:Cx a) (hb:Cx b) (k:Nat):Dl (a++b) k=(match lk b k,lk a k with|none,y=>y|some c,none=>some c|some c,some d=>some (Ll d c)):=by
 have h1:Dl a k=lk a k:=by
  unfold Dl;rw [Oa a ha]
  cases lk a k<;>rfl
 have:Dl (a++b)=b.foldl Gy (Dl a):=by simp [Dl]
 rw [this,Oa b hb,h1]
theorem Qm {a b r:List PT} (ha:PW a) (hb:PW b) (hr:Cx r) (hm:∀t,t∈r↔(Dl (a++b) t.1=some t.2∧t.2.1≠0)):r=Cr a b:=by
 refine Kx hr (Mf a b ha.falls hb.falls) fun t=>?_
 obtain ⟨k,c⟩:=t;rw [hm];have e1:(k,c)∈Cr a b↔lk (Cr a b) k=some c:=⟨Iw (Mf a b ha.falls hb.falls),Id⟩;rw [e1,pT a b ha.falls hb.falls,Xy a b ha.falls hb.falls];show _∧c.1≠0↔_
 cases h1:lk a k with
 | none =>
  cases h2:lk b k with
  | none=>simp [Vt]
  | some d =>
   simp only [Vt,Option.some.injEq];constructor
   ·rintro ⟨rfl,_⟩;rfl
   ·rintro rfl;exact ⟨rfl,(hb.good _ (Id h2)).2⟩
 | some d =>
  cases h2:lk b k with
  | none =>
   simp only [Vt,Option.some.injEq];constructor
   ·rintro ⟨rfl,_⟩;rfl
   ·rintro rfl;exact ⟨rfl,(ha.good _ (Id h1)).2⟩
  | some d' =>
   simp only [Vt,Option.some.injEq]
   split
   ·next h0 =>
    constructor
    ·rintro ⟨rfl,hne⟩;exact absurd h0 hne
    ·intro h;cases h
   ·next h0 =>
    simp only [Option.some.injEq];constructor
    ·rintro ⟨rfl,_⟩;rfl
    ·rintro rfl;exact ⟨rfl,h0⟩
end Go.Proofs.YtnnhcbeiogaknaaGreatDoor
end
