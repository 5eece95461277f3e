/- Package fracs: brought. -/
import Derived.Test.YtnnhcbeiogaknaaGreatDoorQV11
set_option linter.unusedSimpArgs false
set_option linter.unusedVariables false
set_option maxRecDepth 100000
set_option maxHeartbeats 4000000
section
namespace Go.Proofs.YtnnhcbeiogaknaaGreatDoor
open Go.RowKit
def cR (w:World) (x y q:Int) (e:Ending) (w':World):Prop :=
 ∃g1 a1 n1 c1 g2 a2 n2 c2 g3 a3 n3 c3,e=.returned (.tuple #[.agg #[.bool g1,.slice a1 n1 c1,.bool g2,.slice a2 n2 c2],.agg #[.bool g3,.slice a3 n3 c3]])∧Bh w' g1 a1 n1 c1 x∧Bh w' g2 a2 n2 c2 y∧Bh w' g3 a3 n3 c3 q ∧
  Bg w.heap.size w' a1 c1∧Bg w.heap.size w' a2 c2∧Bg w.heap.size w' a3 c3∧Below w.heap.size w w'
theorem Bh.set6 {w:World} {g:Bool} {a:Γ} {n c:Nat} {z:Int} {B:Nat} (h:Bh w g a n c z) (hf:Bg B w a c) (p1 p2 p3 p4 p5 p6:Addr) (u1 u2 u3 u4 u5 u6:Value) (h1:p1.block<B) (h2:p2.block<B) (h3:p3.block<B) (h4:p4.block<B) (h5:p5.block<B) (h6:p6.block<B) :
  Bh ((((((w.setCell p1 u1).setCell p2 u2).setCell p3 u3).setCell p4 u4).setCell p5 u5).setCell p6 u6) g a n c z :=
 ((h.set4 hf p1 p2 p3 p4 u1 u2 u3 u4 h1 h2 h3 h4).setFresh (hf.set4 p1 p2 p3 p4 u1 u2 u3 u4 h1 h2 h3 h4) p5 u5 h5).setFresh ((hf.set4 p1 p2 p3 p4 u1 u2 u3 u4 h1 h2 h3 h4).setNew p5 u5 h5) p6 u6 h6
theorem Bg.set6 {w:World} {a:Γ} {c:Nat} {B:Nat} (hf:Bg B w a c) (p1 p2 p3 p4 p5 p6:Addr) (u1 u2 u3 u4 u5 u6:Value) (h1:p1.block<B) (h2:p2.block<B) (h3:p3.block<B) (h4:p4.block<B) (h5:p5.block<B) (h6:p6.block<B) :
  Bg B ((((((w.setCell p1 u1).setCell p2 u2).setCell p3 u3).setCell p4 u4).setCell p5 u5).setCell p6 u6) a c :=
 ((hf.set4 p1 p2 p3 p4 u1 u2 u3 u4 h1 h2 h3 h4).setNew p5 u5 h5).setNew p6 u6 h6
theorem Jg (w:World) (g1:Bool) (a1:Γ) (n1 c1:Nat) (p:Int) (g2:Bool) (a2:Γ) (n2 c2:Nat) (q:Int) (h:Bj w g1 a1 n1 c1 p g2 a2 n2 c2 q)
  (g3:Bool) (a3:Γ) (n3 c3:Nat) (p':Int) (g4:Bool) (a4:Γ) (n4 c4:Nat) (q':Int) (h':Bj w g3 a3 n3 c3 p' g4 a4 n4 c4 q') (hb1:n1≤1000000000) (hb2:n2≤1000000000) (hb3:n3≤1000000000) (hb4:n4≤1000000000) :
  Θ 61 #[.agg #[.bool g1,.slice a1 n1 c1,.bool g2,.slice a2 n2 c2],.agg #[.bool g3,.slice a3 n3 c3,.bool g4,.slice a4 n4 c4]] w (cR w (p*q') (p'*q) (q*q')):=by
 have HB:=Ac w.heap.size w;go_enter Tryz.func61,Tryz.ntmps61;go_wp2_with fail;go_region_held3 (fun W=>W.cell? ⟨w.heap.size,0,none⟩=some (.bool g1)∧W.cell? ⟨w.heap.size,1,none⟩=some (.slice a1 n1 c1)∧W.cell? ⟨w.heap.size,2,none⟩=some (.bool g2)∧W.cell? ⟨w.heap.size,3,none⟩=some (.slice a2 n2 c2)∧W.cell? ⟨w.heap.size+1,0,none⟩=some (.bool g3)∧W.cell? ⟨w.heap.size+1,1,none⟩=some (.slice a3 n3 c3)∧W.cell? ⟨w.heap.size+1,2,none⟩=some (.bool g4)∧W.cell? ⟨w.heap.size+1,3,none⟩=some (.slice a4 n4 c4)) (first|((try dsimp only);(repeat' apply Ay);all_goals (first|(with_reducible assumption)|(go_keep;done)|(simp [*,go_sem];done)))) (first
  | (go_at_call 91;(with_reducible refine (Tk _ _ _ _ _ _ _ _ _ _ _ (h.keep qF) qA qA).mono ?_);rintro e w1 ⟨rfl,hb⟩;obtain ⟨hc,hf⟩:=Bl hb;have hz:=hb.size;(try simp only [Aj,Ak] at hz);replace HB:=zI w hb;obtain ⟨s0_0,s0_1⟩:=qZ hc (w.heap.size) (.bool g1) (.slice a1 n1 c1);obtain ⟨s0_2,s0_3⟩:=zD hc (w.heap.size) (.bool g2) (.slice a2 n2 c2);obtain ⟨s1_0,s1_1⟩:=qZ hc (w.heap.size+1) (.bool g3) (.slice a3 n3 c3);obtain ⟨s1_2,s1_3⟩:=zD hc (w.heap.size+1) (.bool g4) (.slice a4 n4 c4);obtain ⟨s2_0,s2_1⟩:=zE hc (w.heap.size+1+1);obtain ⟨s2_2,s2_3⟩:=zD hc (w.heap.size+1+1) (.bool false) (.slice none 0 0);obtain ⟨s3_0,s3_1⟩:=zE hc (w.heap.size+1+1+1);obtain ⟨f2_0,f2_1⟩:=zF hf (w.heap.size+1+1);obtain ⟨f2_2,f2_3⟩:=zG hf (w.heap.size+1+1);obtain ⟨f3_0,f3_1⟩:=zF hf (w.heap.size+1+1+1);obtain ⟨f0_0,f0_1⟩:=zF hf (w.heap.size);obtain ⟨f0_2,f0_3⟩:=zG hf (w.heap.size);obtain ⟨f1_0,f1_1⟩:=zF hf (w.heap.size+1);obtain ⟨f1_2,f1_3⟩:=zG hf (w.heap.size+1))
  | (go_at_call 91;(with_reducible refine (Tk _ _ _ _ _ _ _ _ _ _ _ (h'.keep qF) qA qA).mono ?_);rintro e w1 ⟨rfl,hb⟩;obtain ⟨hc,hf⟩:=Bl hb;have hz:=hb.size;(try simp only [Aj,Ak] at hz);replace HB:=zI w hb;obtain ⟨s0_0,s0_1⟩:=qZ hc (w.heap.size) (.bool g1) (.slice a1 n1 c1);obtain ⟨s0_2,s0_3⟩:=zD hc (w.heap.size) (.bool g2) (.slice a2 n2 c2);obtain ⟨s1_0,s1_1⟩:=qZ hc (w.heap.size+1) (.bool g3) (.slice a3 n3 c3);obtain ⟨s1_2,s1_3⟩:=zD hc (w.heap.size+1) (.bool g4) (.slice a4 n4 c4);obtain ⟨s2_0,s2_1⟩:=zE hc (w.heap.size+1+1);obtain ⟨s2_2,s2_3⟩:=zD hc (w.heap.size+1+1) (.bool false) (.slice none 0 0);obtain ⟨s3_0,s3_1⟩:=zE hc (w.heap.size+1+1+1);obtain ⟨f2_0,f2_1⟩:=zF hf (w.heap.size+1+1);obtain ⟨f2_2,f2_3⟩:=zG hf (w.heap.size+1+1);obtain ⟨f3_0,f3_1⟩:=zF hf (w.heap.size+1+1+1);obtain ⟨f0_0,f0_1⟩:=zF hf (w.heap.size);obtain ⟨f0_2,f0_3⟩:=zG hf (w.heap.size);obtain ⟨f1_0,f1_1⟩:=zF hf (w.heap.size+1);obtain ⟨f1_2,f1_3⟩:=zG hf (w.heap.size+1)))
 have hk1:w.heap.size+1+1+1<w1.heap.size:=by omega
 go_upto_region 2 with fail
 refine Cc ?_;intro w2 hw2;have HB2:Below w.heap.size w w2:=by rw [hw2];go_grown
 have A0:w2.cell? ⟨w.heap.size,0,none⟩=some (.bool g1):=by rw [hw2];simp [*,go_sem]
 have A1:w2.cell? ⟨w.heap.size,1,none⟩=some (.slice a1 n1 c1):=by rw [hw2];simp [*,go_sem]
 have A2:w2.cell? ⟨w.heap.size,2,none⟩=some (.bool g2):=by rw [hw2];simp [*,go_sem]
 have A3:w2.cell? ⟨w.heap.size,3,none⟩=some (.slice a2 n2 c2):=by rw [hw2];simp [*,go_sem]
 have B0:w2.cell? ⟨w.heap.size+1,0,none⟩=some (.bool g3):=by rw [hw2];simp [*,go_sem]
 have B1:w2.cell? ⟨w.heap.size+1,1,none⟩=some (.slice a3 n3 c3):=by rw [hw2];simp [*,go_sem]
 have B2:w2.cell? ⟨w.heap.size+1,2,none⟩=some (.bool g4):=by rw [hw2];simp [*,go_sem]
 have B3:w2.cell? ⟨w.heap.size+1,3,none⟩=some (.slice a4 n4 c4):=by rw [hw2];simp [*,go_sem]
 have R0:w2.cell? ⟨w.heap.size+1+1,0,none⟩=some (.bool false):=by rw [hw2];simp [*,go_sem]
 have R1:w2.cell? ⟨w.heap.size+1+1,1,none⟩=some (.slice none 0 0):=by rw [hw2];simp [*,go_sem]
 have R2:w2.cell? ⟨w.heap.size+1+1,2,none⟩=some (.bool false):=by rw [hw2];simp [*,go_sem]
 have R3:w2.cell? ⟨w.heap.size+1+1,3,none⟩=some (.slice none 0 0):=by rw [hw2];simp [*,go_sem]
 have S0:w2.cell? ⟨w.heap.size+1+1+1,0,none⟩=some (.bool false):=by rw [hw2];simp [*,go_sem]
 have S1:w2.cell? ⟨w.heap.size+1+1+1,1,none⟩=some (.slice none 0 0):=by rw [hw2];simp [*,go_sem]
 have Rf0:w2.frozen? ⟨w.heap.size+1+1,0,none⟩=false:=by rw [hw2];simp [*,go_sem]
 have Rf1:w2.frozen? ⟨w.heap.size+1+1,1,none⟩=false:=by rw [hw2];simp [*,go_sem]
 have Rf2:w2.frozen? ⟨w.heap.size+1+1,2,none⟩=false:=by rw [hw2];simp [*,go_sem]
 have Rf3:w2.frozen? ⟨w.heap.size+1+1,3,none⟩=false:=by rw [hw2];simp [*,go_sem]
 have Sf0:w2.frozen? ⟨w.heap.size+1+1+1,0,none⟩=false:=by rw [hw2];simp [*,go_sem]
 have Sf1:w2.frozen? ⟨w.heap.size+1+1+1,1,none⟩=false:=by rw [hw2];simp [*,go_sem]
 clear hw2 HB hc hf hb hz s0_0 s0_1 s0_2 s0_3 s1_0 s1_1 s1_2 s1_3 s2_0 s2_1 s2_2 s2_3 s3_0 s3_1 f0_0 f0_1 f0_2 f0_3 f1_0 f1_1 f1_2 f1_3 f2_0 f2_1 f2_2 f2_3 f3_0 f3_1 hk1;have h2:=h.keep HB2;have h2':=h'.keep HB2;have HB:=Ac w2.heap.size w2;have hk2:w.heap.size+1+1+1<w2.heap.size:=Aa _ _ S0;go_region_held3 (fun W=>W.cell? ⟨w.heap.size,0,none⟩=some (.bool g1)∧W.cell? ⟨w.heap.size,1,none⟩=some (.slice a1 n1 c1)∧W.cell? ⟨w.heap.size,2,none⟩=some (.bool g2)∧W.cell? ⟨w.heap.size,3,none⟩=some (.slice a2 n2 c2)∧W.cell? ⟨w.heap.size+1,0,none⟩=some (.bool g3)∧W.cell? ⟨w.heap.size+1,1,none⟩=some (.slice a3 n3 c3)∧W.cell? ⟨w.heap.size+1,2,none⟩=some (.bool g4)∧W.cell? ⟨w.heap.size+1,3,none⟩=some (.slice a4 n4 c4)) (first|((try dsimp only);(repeat' apply Ay);all_goals (first|(with_reducible assumption)|(go_keep;done)|(simp [*,go_sem];done)))) (first
  | (go_at_call 96;(with_reducible refine (Za _ _ _ _ _ _ (h2.top.keep qP) _ _ _ _ _ (h2'.low.keep qP) qA qA).mono ?_);rintro e w3 ⟨gx,ax,nx,cx,rfl,hx,hfx,hb⟩;replace HB:Below w2.heap.size w2 w3:=Al qP (hb.mono qB);have hsz:=HB.size;(replace Rf0:=(Ab HB (Aa _ _ R0)).trans Rf0;replace Rf1:=(Ab HB (Aa _ _ R1)).trans Rf1;replace Rf2:=(Ab HB (Aa _ _ R2)).trans Rf2;replace Rf3:=(Ab HB (Aa _ _ R3)).trans Rf3;replace Sf0:=(Ab HB (Aa _ _ S0)).trans Sf0;replace Sf1:=(Ab HB (Aa _ _ S1)).trans Sf1;replace A0:=Bc HB A0;replace A1:=Bc HB A1;replace A2:=Bc HB A2;replace A3:=Bc HB A3;replace B0:=Bc HB B0;replace B1:=Bc HB B1;replace B2:=Bc HB B2;replace B3:=Bc HB B3;replace R0:=Bc HB R0;replace R1:=Bc HB R1;replace R2:=Bc HB R2;replace R3:=Bc HB R3;replace S0:=Bc HB S0;replace S1:=Bc HB S1))
  | (go_at_call 96;(with_reducible refine (Za _ _ _ _ _ _ (h2'.top.keep qP) _ _ _ _ _ (h2.low.keep qP) qA qA).mono ?_);rintro e w4 ⟨gy,ay,ny,cy,rfl,hy,hfy,hb4⟩;have hb34:Below w3.heap.size w3 w4:=Al qP (hb4.mono qB);replace HB:Below w2.heap.size w2 w4:=Al HB (hb34.mono qB);have hsz4:=HB.size;(replace Rf0:=(Ab hb34 (Aa _ _ R0)).trans Rf0;replace Rf1:=(Ab hb34 (Aa _ _ R1)).trans Rf1;replace Rf2:=(Ab hb34 (Aa _ _ R2)).trans Rf2;replace Rf3:=(Ab hb34 (Aa _ _ R3)).trans Rf3;replace Sf0:=(Ab hb34 (Aa _ _ S0)).trans Sf0;replace Sf1:=(Ab hb34 (Aa _ _ S1)).trans Sf1;replace A0:=Bc hb34 A0;replace A1:=Bc hb34 A1;replace A2:=Bc hb34 A2;replace A3:=Bc hb34 A3;replace B0:=Bc hb34 B0;replace B1:=Bc hb34 B1;replace B2:=Bc hb34 B2;replace B3:=Bc hb34 B3;replace R0:=Bc hb34 R0;replace R1:=Bc hb34 R1;replace R2:=Bc hb34 R2;replace R3:=Bc hb34 R3;replace S0:=Bc hb34 S0;replace S1:=Bc hb34 S1))
  | (go_at_call 96;(with_reducible refine (Za _ _ _ _ _ _ (h2.low.keep qP) _ _ _ _ _ (h2'.low.keep qP) qA qA).mono ?_);rintro e w5 ⟨gq,aq,nq,cq,rfl,hq,hfq,hb5⟩;have hb45:Below w4.heap.size w4 w5:=Al qP (hb5.mono qB);replace HB:Below w2.heap.size w2 w5:=Al HB (hb45.mono qB);have hsz5:=HB.size;(replace Rf0:=(Ab hb45 (Aa _ _ R0)).trans Rf0;replace Rf1:=(Ab hb45 (Aa _ _ R1)).trans Rf1;replace Rf2:=(Ab hb45 (Aa _ _ R2)).trans Rf2;replace Rf3:=(Ab hb45 (Aa _ _ R3)).trans Rf3;replace Sf0:=(Ab hb45 (Aa _ _ S0)).trans Sf0;replace Sf1:=(Ab hb45 (Aa _ _ S1)).trans Sf1;replace A0:=Bc hb45 A0;replace A1:=Bc hb45 A1;replace A2:=Bc hb45 A2;replace A3:=Bc hb45 A3;replace B0:=Bc hb45 B0;replace B1:=Bc hb45 B1;replace B2:=Bc hb45 B2;replace B3:=Bc hb45 B3;replace R0:=Bc hb45 R0;replace R1:=Bc hb45 R1;replace R2:=Bc hb45 R2;replace R3:=Bc hb45 R3;replace S0:=Bc hb45 S0;replace S1:=Bc hb45 S1)))
 all_goals
  have hx5:=(hx.keep hb34).keep hb45;have hy5:=hy.keep hb45;have fx5:Bg (w.heap.size+1+1+1+1) w5 ax cx:=((hfx.mono qB).keep hb34).keep hb45;have fy5:Bg (w.heap.size+1+1+1+1) w5 ay cy:=(hfy.mono qB).keep hb45;have fq5:Bg (w.heap.size+1+1+1+1) w5 aq cq:=hfq.mono qB;have u2:w.heap.size+1+1<w.heap.size+1+1+1+1:=by omega
  have u3:w.heap.size+1+1+1<w.heap.size+1+1+1+1:=by omega
  have HW:=HB2.trans (HB.mono HB2.size);go_wp2_with fail;refine bodyPost_ret (v:=.tuple #[.agg #[.bool gx,.slice ax nx cx,.bool gy,.slice ay ny cy],.agg #[.bool gq,.slice aq nq cq]]) (by simp [results,Tryz.results61,go_sem,R0,R1,R2,R3,S0,S1]) rfl ?_;refine ⟨gx,ax,nx,cx,gy,ay,ny,cy,gq,aq,nq,cq,rfl,?_,?_,?_,?_,?_,?_,by go_grown⟩
  ·exact hx5.set6 fx5 _ _ _ _ _ _ _ _ _ _ _ _ u2 u2 u2 u2 u3 u3
  ·exact hy5.set6 fy5 _ _ _ _ _ _ _ _ _ _ _ _ u2 u2 u2 u2 u3 u3
  ·exact hq.set6 fq5 _ _ _ _ _ _ _ _ _ _ _ _ u2 u2 u2 u2 u3 u3
  ·exact (fx5.set6 _ _ _ _ _ _ _ _ _ _ _ _ u2 u2 u2 u2 u3 u3).mono qA
  ·exact (fy5.set6 _ _ _ _ _ _ _ _ _ _ _ _ u2 u2 u2 u2 u3 u3).mono qA
  ·exact (fq5.set6 _ _ _ _ _ _ _ _ _ _ _ _ u2 u2 u2 u2 u3 u3).mono qA
end Go.Proofs.YtnnhcbeiogaknaaGreatDoor
end
section
namespace Go.Proofs.YtnnhcbeiogaknaaGreatDoor
theorem top_lt {d:Ξ} {m:Nat} (h:∀x∈d,x<1000000000) (hl:d.length=m) (hm:1≤m):val d<1000000000 ^ (m-1)*(d.getD (m-1) 0+1):=by
 have h1:=Kv (l:=d) (k:=m-1) qA;have h2:=Gc h (m-1) qA;rw [Nat.mul_add];omega
theorem oB {d:Ξ} {m:Nat} (h:Er d) (hl:d.length=m) (hm:1≤m):1000000000 ^ (m-1)≤val d:=by
 have h1:=Kv (l:=d) (k:=m-1) qA;have h2:=gL h hl hm;have:1000000000 ^ (m-1)*1≤1000000000 ^ (m-1)*d.getD (m-1) 0:=At _ h2;omega
end Go.Proofs.YtnnhcbeiogaknaaGreatDoor
end
section
namespace Go.Proofs.YtnnhcbeiogaknaaGreatDoor
open Go.RowKit
theorem Ft (x y:Nat):(dg (x*y)).length≤(dg x).length+(dg y).length:=by
 have h1:=Ez (dg x) (Ew x);have h2:=Ez (dg y) (Ew y);rw [Bq] at h1 h2;have h3:x*y<1000000000 ^ ((dg x).length+(dg y).length):=by rw [Nat.pow_add];exact Nat.mul_lt_mul'' h1 h2
 rcases Nat.lt_or_ge ((dg x).length+(dg y).length) (dg (x*y)).length with h4|h4
 ·exfalso;have h5:=oB (Ch (x*y)) rfl qA;rw [Bq] at h5;have h6:1000000000 ^ ((dg x).length+(dg y).length)≤1000000000 ^ ((dg (x*y)).length-1):=Nat.pow_le_pow_right qA qA;omega
 ·exact h4
theorem lM (w:World) (g1:Bool) (a1:Γ) (n1 c1:Nat) (p:Int) (g2:Bool) (a2:Γ) (n2 c2:Nat) (q:Int) (h:Bj w g1 a1 n1 c1 p g2 a2 n2 c2 q)
  (g3:Bool) (a3:Γ) (n3 c3:Nat) (p':Int) (g4:Bool) (a4:Γ) (n4 c4:Nat) (q':Int) (h':Bj w g3 a3 n3 c3 p' g4 a4 n4 c4 q') (hb1:n1≤1000000000) (hb2:n2≤1000000000) (hb3:n3≤1000000000) (hb4:n4≤1000000000) (k1 k2:Value) (D:Int) (hD:(dg D.natAbs).length<35184372088829)
  (hcall:∀(W:World) (gx:Bool) (ax:Γ) (nx cx:Nat) (gy:Bool) (ay:Γ) (ny cy:Nat),Below w.heap.size w W→Bh W gx ax nx cx (p*q')→Bh W gy ay ny cy (p'*q)→Θ 95 #[.agg #[.bool gx,.slice ax nx cx],.agg #[.bool gy,.slice ay ny cy],k1,k2] W (Fc W D)) :
  Θ 94 #[.agg #[.bool g1,.slice a1 n1 c1,.bool g2,.slice a2 n2 c2],.agg #[.bool g3,.slice a3 n3 c3,.bool g4,.slice a4 n4 c4],.func (.func 95) #[] #[k1,k2]] w (Eg w (D/(Int.gcd D (q*q'):Int)) ((q*q')/(Int.gcd D (q*q'):Int))):=by
 have HCL:=Ae hcall;have HDL:=Ae hD;have hqq:0<q*q':=Int.mul_pos h.pos h'.pos;have HQQ:=Ae hqq;have hql:(dg (q*q').natAbs).length≤n2+n4:=by
  exact qDl
 have HQL:=Ae hql;clear hcall hD hqq hql;go_enter Tryz.func94,Tryz.ntmps94;go_wp2_with fail;refine Be ?_;intro w0 hw0;have HB0:Below w.heap.size w w0:=by rw [hw0];go_grown
 have R0:w0.cell? ⟨w.heap.size+1+1,0,none⟩=some (.bool false):=by rw [hw0];simp [go_sem]
 have R1:w0.cell? ⟨w.heap.size+1+1,1,none⟩=some (.slice none 0 0):=by rw [hw0];simp [go_sem]
 have R2:w0.cell? ⟨w.heap.size+1+1,2,none⟩=some (.bool false):=by rw [hw0];simp [go_sem]
 have R3:w0.cell? ⟨w.heap.size+1+1,3,none⟩=some (.slice none 0 0):=by rw [hw0];simp [go_sem]
 have Rf0:w0.frozen? ⟨w.heap.size+1+1,0,none⟩=false:=by rw [hw0];simp [go_sem]
 have Rf1:w0.frozen? ⟨w.heap.size+1+1,1,none⟩=false:=by rw [hw0];simp [go_sem]
 have Rf2:w0.frozen? ⟨w.heap.size+1+1,2,none⟩=false:=by rw [hw0];simp [go_sem]
 have Rf3:w0.frozen? ⟨w.heap.size+1+1,3,none⟩=false:=by rw [hw0];simp [go_sem]
 clear hw0;refine (Jg _ _ _ _ _ _ _ _ _ _ _ (h.keep HB0) _ _ _ _ _ _ _ _ _ _ (h'.keep HB0) hb1 hb2 hb3 hb4).mono ?_;rintro e w1 ⟨gx,ax,nx,cx,gy,ay,ny,cy,gq,aq,nq,cq,rfl,hx,hy,hq,hfx,hfy,hfq,hb⟩;have HB1:=HB0.trans (hb.mono HB0.size)
 (replace Rf0:=(Ab hb (Aa _ _ R0)).trans Rf0;replace Rf1:=(Ab hb (Aa _ _ R1)).trans Rf1;replace Rf2:=(Ab hb (Aa _ _ R2)).trans Rf2;replace Rf3:=(Ab hb (Aa _ _ R3)).trans Rf3;replace R0:=Bc hb R0;replace R1:=Bc hb R1;replace R2:=Bc hb R2;replace R3:=Bc hb R3)
 have hs1:=HB1.size;have hk1:w.heap.size+1+1<w1.heap.size:=Aa _ _ R0;clear hb HB0 hfx hfy hfq;go_upto_region 2 with fail
 (refine Cc ?_;intro w2 hw2;have M0':w2.cell? ⟨w1.heap.size,0,none⟩=some (.bool gx):=(by rw [hw2];first|assumption|(simp [go_sem];done)|(simp [*,go_sem];done));have M1':w2.cell? ⟨w1.heap.size,1,none⟩=some (.slice ax nx cx):=(by rw [hw2];first|assumption|(simp [go_sem];done)|(simp [*,go_sem];done));have M2':w2.cell? ⟨w1.heap.size,2,none⟩=some (.bool gy):=(by rw [hw2];first|assumption|(simp [go_sem];done)|(simp [*,go_sem];done));have M3':w2.cell? ⟨w1.heap.size,3,none⟩=some (.slice ay ny cy):=(by rw [hw2];first|assumption|(simp [go_sem];done)|(simp [*,go_sem];done));have L0':w2.cell? ⟨w1.heap.size+1,0,none⟩=some (.bool gq):=(by rw [hw2];first|assumption|(simp [go_sem];done)|(simp [*,go_sem];done));have L1':w2.cell? ⟨w1.heap.size+1,1,none⟩=some (.slice aq nq cq):=(by rw [hw2];first|assumption|(simp [go_sem];done)|(simp [*,go_sem];done));have M0:=M0';clear M0';have M1:=M1';clear M1';have M2:=M2';clear M2';have M3:=M3';clear M3';have L0:=L0';clear L0';have L1:=L1';clear L1');have hb12:Below w1.heap.size w1 w2:=by rw [hw2];go_grown
 have hs12:w1.heap.size<w2.heap.size:=by rw [hw2];simp;omega
 (replace Rf0:=(Ab hb12 (Aa _ _ R0)).trans Rf0;replace Rf1:=(Ab hb12 (Aa _ _ R1)).trans Rf1;replace Rf2:=(Ab hb12 (Aa _ _ R2)).trans Rf2;replace Rf3:=(Ab hb12 (Aa _ _ R3)).trans Rf3;replace R0:=Bc hb12 R0;replace R1:=Bc hb12 R1;replace R2:=Bc hb12 R2;replace R3:=Bc hb12 R3)
 have HB2:=HB1.trans (hb12.mono hs1);have hx2:=hx.keep hb12;have hy2:=hy.keep hb12;have hq2:=hq.keep hb12;obtain ⟨M,hM⟩:∃M,M=w1.heap.size:=⟨_,rfl⟩;rw [←hM] at M0 M1 M2 M3 L0 L1 ⊢;have hMr:w.heap.size+1+1<M:=by omega
 have hq3:nq≤n2+n4:=by have h1:=hq2.rd.len;have:=HQL.out;omega
 clear hw2 hb12 HB1 hM hx hy hq hs12;have hk2:w.heap.size+1+1+1≤w2.heap.size:=Aa _ _ R0;have HB:=Ac w2.heap.size w2;go_region_held3 (fun W=>W.cell? ⟨M,0,none⟩=some (.bool gx)∧W.cell? ⟨M,1,none⟩=some (.slice ax nx cx)∧W.cell? ⟨M,2,none⟩=some (.bool gy)∧W.cell? ⟨M,3,none⟩=some (.slice ay ny cy)∧W.cell? ⟨M+1,0,none⟩=some (.bool gq)∧W.cell? ⟨M+1,1,none⟩=some (.slice aq nq cq)) (first|((try dsimp only);(repeat' apply Ay);all_goals (first|(with_reducible assumption)|(go_keep;done)|(simp [*,go_sem];done)))) (first
  | (go_at_call 95;(with_reducible refine (HCL.out _ _ _ _ _ _ _ _ _ (HB2.trans ((by first|assumption|go_grown:Below w2.heap.size w2 _).mono HB2.size)) (hx2.keep qP) (hy2.keep qP)).mono ?_);rintro e w3 ⟨gd,ad,nd,cd,rfl,hd,hfd,hb⟩;replace HB:Below w2.heap.size w2 w3:=Al qP (hb.mono qB);have hsz:=HB.size;(replace Rf0:=(Ab HB (Aa _ _ R0)).trans Rf0;replace Rf1:=(Ab HB (Aa _ _ R1)).trans Rf1;replace Rf2:=(Ab HB (Aa _ _ R2)).trans Rf2;replace Rf3:=(Ab HB (Aa _ _ R3)).trans Rf3;replace M0:=Bc HB M0;replace M1:=Bc HB M1;replace M2:=Bc HB M2;replace M3:=Bc HB M3;replace L0:=Bc HB L0;replace L1:=Bc HB L1;replace R0:=Bc HB R0;replace R1:=Bc HB R1;replace R2:=Bc HB R2;replace R3:=Bc HB R3);have hdl:nd<35184372088829:=(by have h1:=hd.rd.len;have:=HDL.out;omega))
  | (go_at_call 124;(with_reducible refine (Sx _ _ _ _ _ D (hd.keep qU) _ _ _ _ (q*q') (hq2.keep qP) HQQ.out qA qA).mono ?_);rintro e w4 ⟨ge,ae,ne,ce,gf,af,nf,cf,rfl,hr,hfe,hff,hap,hb4⟩;have hb34:Below w3.heap.size w3 w4:=Al qP (hb4.mono qB);replace HB:Below w2.heap.size w2 w4:=Al HB (hb34.mono qB);have hsz4:=HB.size;(replace Rf0:=(Ab hb34 (Aa _ _ R0)).trans Rf0;replace Rf1:=(Ab hb34 (Aa _ _ R1)).trans Rf1;replace Rf2:=(Ab hb34 (Aa _ _ R2)).trans Rf2;replace Rf3:=(Ab hb34 (Aa _ _ R3)).trans Rf3;replace M0:=Bc hb34 M0;replace M1:=Bc hb34 M1;replace M2:=Bc hb34 M2;replace M3:=Bc hb34 M3;replace L0:=Bc hb34 L0;replace L1:=Bc hb34 L1;replace R0:=Bc hb34 R0;replace R1:=Bc hb34 R1;replace R2:=Bc hb34 R2;replace R3:=Bc hb34 R3)))
 all_goals
  exact qDv
theorem lN (w:World) (g1:Bool) (a1:Γ) (n1 c1:Nat) (p:Int) (g2:Bool) (a2:Γ) (n2 c2:Nat) (q:Int) (h:Bj w g1 a1 n1 c1 p g2 a2 n2 c2 q)
  (g3:Bool) (a3:Γ) (n3 c3:Nat) (p':Int) (g4:Bool) (a4:Γ) (n4 c4:Nat) (q':Int) (h':Bj w g3 a3 n3 c3 p' g4 a4 n4 c4 q') (hb1:n1≤1000000000) (hb2:n2≤1000000000) (hb3:n3≤1000000000) (hb4:n4≤1000000000) (D:Int) (hD:(dg D.natAbs).length<35184372088829)
  (hcall:∀(W:World) (gx:Bool) (ax:Γ) (nx cx:Nat) (gy:Bool) (ay:Γ) (ny cy:Nat),Below w.heap.size w W→Bh W gx ax nx cx (p*q')→Bh W gy ay ny cy (p'*q)→Θ 170 #[.agg #[.bool gx,.slice ax nx cx],.agg #[.bool gy,.slice ay ny cy]] W (Fc W D)) :
  Θ 94 #[.agg #[.bool g1,.slice a1 n1 c1,.bool g2,.slice a2 n2 c2],.agg #[.bool g3,.slice a3 n3 c3,.bool g4,.slice a4 n4 c4],.func (.func 170) #[] #[]] w (Eg w (D/(Int.gcd D (q*q'):Int)) ((q*q')/(Int.gcd D (q*q'):Int))):=by
 have HCL:=Ae hcall;have HDL:=Ae hD;have hqq:0<q*q':=Int.mul_pos h.pos h'.pos;have HQQ:=Ae hqq;have hql:(dg (q*q').natAbs).length≤n2+n4:=by
  exact qDl
 have HQL:=Ae hql;clear hcall hD hqq hql;go_enter Tryz.func94,Tryz.ntmps94;go_wp2_with fail;refine Be ?_;intro w0 hw0;have HB0:Below w.heap.size w w0:=by rw [hw0];go_grown
 have R0:w0.cell? ⟨w.heap.size+1+1,0,none⟩=some (.bool false):=by rw [hw0];simp [go_sem]
 have R1:w0.cell? ⟨w.heap.size+1+1,1,none⟩=some (.slice none 0 0):=by rw [hw0];simp [go_sem]
 have R2:w0.cell? ⟨w.heap.size+1+1,2,none⟩=some (.bool false):=by rw [hw0];simp [go_sem]
 have R3:w0.cell? ⟨w.heap.size+1+1,3,none⟩=some (.slice none 0 0):=by rw [hw0];simp [go_sem]
 have Rf0:w0.frozen? ⟨w.heap.size+1+1,0,none⟩=false:=by rw [hw0];simp [go_sem]
 have Rf1:w0.frozen? ⟨w.heap.size+1+1,1,none⟩=false:=by rw [hw0];simp [go_sem]
 have Rf2:w0.frozen? ⟨w.heap.size+1+1,2,none⟩=false:=by rw [hw0];simp [go_sem]
 have Rf3:w0.frozen? ⟨w.heap.size+1+1,3,none⟩=false:=by rw [hw0];simp [go_sem]
 clear hw0;refine (Jg _ _ _ _ _ _ _ _ _ _ _ (h.keep HB0) _ _ _ _ _ _ _ _ _ _ (h'.keep HB0) hb1 hb2 hb3 hb4).mono ?_;rintro e w1 ⟨gx,ax,nx,cx,gy,ay,ny,cy,gq,aq,nq,cq,rfl,hx,hy,hq,hfx,hfy,hfq,hb⟩;have HB1:=HB0.trans (hb.mono HB0.size)
 (replace Rf0:=(Ab hb (Aa _ _ R0)).trans Rf0;replace Rf1:=(Ab hb (Aa _ _ R1)).trans Rf1;replace Rf2:=(Ab hb (Aa _ _ R2)).trans Rf2;replace Rf3:=(Ab hb (Aa _ _ R3)).trans Rf3;replace R0:=Bc hb R0;replace R1:=Bc hb R1;replace R2:=Bc hb R2;replace R3:=Bc hb R3)
 have hs1:=HB1.size;have hk1:w.heap.size+1+1<w1.heap.size:=Aa _ _ R0;clear hb HB0 hfx hfy hfq;go_upto_region 2 with fail
 (refine Cc ?_;intro w2 hw2;have M0':w2.cell? ⟨w1.heap.size,0,none⟩=some (.bool gx):=(by rw [hw2];first|assumption|(simp [go_sem];done)|(simp [*,go_sem];done));have M1':w2.cell? ⟨w1.heap.size,1,none⟩=some (.slice ax nx cx):=(by rw [hw2];first|assumption|(simp [go_sem];done)|(simp [*,go_sem];done));have M2':w2.cell? ⟨w1.heap.size,2,none⟩=some (.bool gy):=(by rw [hw2];first|assumption|(simp [go_sem];done)|(simp [*,go_sem];done));have M3':w2.cell? ⟨w1.heap.size,3,none⟩=some (.slice ay ny cy):=(by rw [hw2];first|assumption|(simp [go_sem];done)|(simp [*,go_sem];done));have L0':w2.cell? ⟨w1.heap.size+1,0,none⟩=some (.bool gq):=(by rw [hw2];first|assumption|(simp [go_sem];done)|(simp [*,go_sem];done));have L1':w2.cell? ⟨w1.heap.size+1,1,none⟩=some (.slice aq nq cq):=(by rw [hw2];first|assumption|(simp [go_sem];done)|(simp [*,go_sem];done));have M0:=M0';clear M0';have M1:=M1';clear M1';have M2:=M2';clear M2';have M3:=M3';clear M3';have L0:=L0';clear L0';have L1:=L1';clear L1');have hb12:Below w1.heap.size w1 w2:=by rw [hw2];go_grown
 have hs12:w1.heap.size<w2.heap.size:=by rw [hw2];simp;omega
 (replace Rf0:=(Ab hb12 (Aa _ _ R0)).trans Rf0;replace Rf1:=(Ab hb12 (Aa _ _ R1)).trans Rf1;replace Rf2:=(Ab hb12 (Aa _ _ R2)).trans Rf2;replace Rf3:=(Ab hb12 (Aa _ _ R3)).trans Rf3;replace R0:=Bc hb12 R0;replace R1:=Bc hb12 R1;replace R2:=Bc hb12 R2;replace R3:=Bc hb12 R3)
 have HB2:=HB1.trans (hb12.mono hs1);have hx2:=hx.keep hb12;have hy2:=hy.keep hb12;have hq2:=hq.keep hb12;obtain ⟨M,hM⟩:∃M,M=w1.heap.size:=⟨_,rfl⟩;rw [←hM] at M0 M1 M2 M3 L0 L1 ⊢;have hMr:w.heap.size+1+1<M:=by omega
 have hq3:nq≤n2+n4:=by have h1:=hq2.rd.len;have:=HQL.out;omega
 clear hw2 hb12 HB1 hM hx hy hq hs12;have hk2:w.heap.size+1+1+1≤w2.heap.size:=Aa _ _ R0;have HB:=Ac w2.heap.size w2;go_region_held3 (fun W=>W.cell? ⟨M,0,none⟩=some (.bool gx)∧W.cell? ⟨M,1,none⟩=some (.slice ax nx cx)∧W.cell? ⟨M,2,none⟩=some (.bool gy)∧W.cell? ⟨M,3,none⟩=some (.slice ay ny cy)∧W.cell? ⟨M+1,0,none⟩=some (.bool gq)∧W.cell? ⟨M+1,1,none⟩=some (.slice aq nq cq)) (first|((try dsimp only);(repeat' apply Ay);all_goals (first|(with_reducible assumption)|(go_keep;done)|(simp [*,go_sem];done)))) (first
  | (go_at_call 170;(with_reducible refine (HCL.out _ _ _ _ _ _ _ _ _ (HB2.trans ((by first|assumption|go_grown:Below w2.heap.size w2 _).mono HB2.size)) (hx2.keep qP) (hy2.keep qP)).mono ?_);rintro e w3 ⟨gd,ad,nd,cd,rfl,hd,hfd,hb⟩;replace HB:Below w2.heap.size w2 w3:=Al qP (hb.mono qB);have hsz:=HB.size;(replace Rf0:=(Ab HB (Aa _ _ R0)).trans Rf0;replace Rf1:=(Ab HB (Aa _ _ R1)).trans Rf1;replace Rf2:=(Ab HB (Aa _ _ R2)).trans Rf2;replace Rf3:=(Ab HB (Aa _ _ R3)).trans Rf3;replace M0:=Bc HB M0;replace M1:=Bc HB M1;replace M2:=Bc HB M2;replace M3:=Bc HB M3;replace L0:=Bc HB L0;replace L1:=Bc HB L1;replace R0:=Bc HB R0;replace R1:=Bc HB R1;replace R2:=Bc HB R2;replace R3:=Bc HB R3);have hdl:nd<35184372088829:=(by have h1:=hd.rd.len;have:=HDL.out;omega))
  | (go_at_call 124;(with_reducible refine (Sx _ _ _ _ _ D (hd.keep qU) _ _ _ _ (q*q') (hq2.keep qP) HQQ.out qA qA).mono ?_);rintro e w4 ⟨ge,ae,ne,ce,gf,af,nf,cf,rfl,hr,hfe,hff,hap,hb4⟩;have hb34:Below w3.heap.size w3 w4:=Al qP (hb4.mono qB);replace HB:Below w2.heap.size w2 w4:=Al HB (hb34.mono qB);have hsz4:=HB.size;(replace Rf0:=(Ab hb34 (Aa _ _ R0)).trans Rf0;replace Rf1:=(Ab hb34 (Aa _ _ R1)).trans Rf1;replace Rf2:=(Ab hb34 (Aa _ _ R2)).trans Rf2;replace Rf3:=(Ab hb34 (Aa _ _ R3)).trans Rf3;replace M0:=Bc hb34 M0;replace M1:=Bc hb34 M1;replace M2:=Bc hb34 M2;replace M3:=Bc hb34 M3;replace L0:=Bc hb34 L0;replace L1:=Bc hb34 L1;replace R0:=Bc hb34 R0;replace R1:=Bc hb34 R1;replace R2:=Bc hb34 R2;replace R3:=Bc hb34 R3)))
 all_goals
  exact qDv
end Go.Proofs.YtnnhcbeiogaknaaGreatDoor
end
