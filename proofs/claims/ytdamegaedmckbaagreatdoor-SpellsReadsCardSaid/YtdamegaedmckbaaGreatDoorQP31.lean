/- The document's answer, layer 2: Mul. -/
import Derived.Test.YtdamegaedmckbaaGreatDoorQP30
set_option linter.unusedSimpArgs false
set_option linter.unusedVariables false
set_option maxRecDepth 100000
set_option maxHeartbeats 4000000
section
namespace Go.Proofs.YtdamegaedmckbaaGreatDoor
open Go.RowKit
theorem V6 (w : World) (g1 : Bool) (a1 : Option Addr) (n1 c1 : Nat) (p : Int) (g2 : Bool) (a2 : Option Addr) (n2 c2 : Nat) (q : Int) (h : Bj w g1 a1 n1 c1 p g2 a2 n2 c2 q)
  (g3 : Bool) (a3 : Option Addr) (n3 c3 : Nat) (p' : Int) (g4 : Bool) (a4 : Option Addr) (n4 c4 : Nat) (q' : Int) (h' : Bj w g3 a3 n3 c3 p' g4 a4 n4 c4 q') (hb1 : n1 ≤ 1000000000) (hb2 : n2 ≤ 1000000000) (hb3 : n3 ≤ 1000000000) (hb4 : n4 ≤ 1000000000) :
  Calls Tryz.prog 200 #[.agg #[.bool g1, .slice a1 n1 c1, .bool g2, .slice a2 n2 c2], .agg #[.bool g3, .slice a3 n3 c3, .bool g4, .slice a4 n4 c4]] w (Hx w (Fz (p * p') (q * q')) (Fj (p * p') (q * q'))) := by
 have e1 := h.top.rd.len
 have e2 := h.low.rd.len
 have e3 := h'.top.rd.len
 have e4 := h'.low.rd.len
 have i1 := Ci p p'
 have i2 := Ci q q'
 have HD : Hid ((dg (p * p').natAbs).length < 35184372088829 ∧ (dg (q * q').natAbs).length < 35184372088829) := Ae qB
 have HQ : Hid (0 < q * q') := Ae (Int.mul_pos h.pos h'.pos)
 clear e1 e2 e3 e4 i1 i2
 have HB := Ac w.heap.size w
 go_enter Tryz.func200, Tryz.ntmps200
 go_wp2_with fail
 refine (J6 _ _ _ _ _ _ _ _ _ _ _ (h.keep qF) qB qB).mono ?_
 rintro e w1 ⟨rfl, hb⟩
 obtain ⟨hc, hf⟩ := Ax hb; have hz := hb.size; (try simp only [Aj, Ak] at hz)
 replace HB := zD w hb
 obtain ⟨s0_0, s0_1⟩ := qX hc (w.heap.size) (.bool g1) (.slice a1 n1 c1); obtain ⟨s0_2, s0_3⟩ := qY hc (w.heap.size) (.bool g2) (.slice a2 n2 c2); obtain ⟨s1_0, s1_1⟩ := qX hc (w.heap.size + 1) (.bool g3) (.slice a3 n3 c3); obtain ⟨s1_2, s1_3⟩ := qY hc (w.heap.size + 1) (.bool g4) (.slice a4 n4 c4); obtain ⟨s2_0, s2_1⟩ := qZ hc (w.heap.size + 1 + 1); obtain ⟨s2_2, s2_3⟩ := qY hc (w.heap.size + 1 + 1) (.bool false) (.slice none 0 0); obtain ⟨f2_0, f2_1⟩ := zA hf (w.heap.size + 1 + 1); obtain ⟨f2_2, f2_3⟩ := zB hf (w.heap.size + 1 + 1); obtain ⟨f0_0, f0_1⟩ := zA hf (w.heap.size); obtain ⟨f0_2, f0_3⟩ := zB hf (w.heap.size); obtain ⟨f1_0, f1_1⟩ := zA hf (w.heap.size + 1); obtain ⟨f1_2, f1_3⟩ := zB hf (w.heap.size + 1)
 have hk1 : w.heap.size + 1 + 1 < w1.heap.size := by omega
 have hk1a : w.heap.size < w1.heap.size := by omega
 have hk1b : w.heap.size + 1 < w1.heap.size := by omega
 clear hc hf hb hz
 go_upto_region 2 with fail
 refine Ck ?_
 intro w2 hw2
 have HB2 : Below w.heap.size w w2 := by rw [hw2]; go_grown
 have A0 : w2.cell? ⟨w.heap.size, 0, none⟩ = some (.bool g1) := by rw [hw2]; simp [*, go_sem]
 have A1 : w2.cell? ⟨w.heap.size, 1, none⟩ = some (.slice a1 n1 c1) := by rw [hw2]; simp [*, go_sem]
 have A2 : w2.cell? ⟨w.heap.size, 2, none⟩ = some (.bool g2) := by rw [hw2]; simp [*, go_sem]
 have A3 : w2.cell? ⟨w.heap.size, 3, none⟩ = some (.slice a2 n2 c2) := by rw [hw2]; simp [*, go_sem]
 have B0 : w2.cell? ⟨w.heap.size + 1, 0, none⟩ = some (.bool g3) := by rw [hw2]; simp [*, go_sem]
 have Bf0 : w2.frozen? ⟨w.heap.size + 1, 0, none⟩ = false := by rw [hw2]; simp [*, go_sem]
 have B1 : w2.cell? ⟨w.heap.size + 1, 1, none⟩ = some (.slice a3 n3 c3) := by rw [hw2]; simp [*, go_sem]
 have Bf1 : w2.frozen? ⟨w.heap.size + 1, 1, none⟩ = false := by rw [hw2]; simp [*, go_sem]
 have B2 : w2.cell? ⟨w.heap.size + 1, 2, none⟩ = some (.bool g4) := by rw [hw2]; simp [*, go_sem]
 have Bf2 : w2.frozen? ⟨w.heap.size + 1, 2, none⟩ = false := by rw [hw2]; simp [*, go_sem]
 have B3 : w2.cell? ⟨w.heap.size + 1, 3, none⟩ = some (.slice a4 n4 c4) := by rw [hw2]; simp [*, go_sem]
 have Bf3 : w2.frozen? ⟨w.heap.size + 1, 3, none⟩ = false := by rw [hw2]; simp [*, go_sem]
 have R0 : w2.cell? ⟨w.heap.size + 1 + 1, 0, none⟩ = some (.bool false) := by rw [hw2]; simp [*, go_sem]
 have Rf0 : w2.frozen? ⟨w.heap.size + 1 + 1, 0, none⟩ = false := by rw [hw2]; simp [*, go_sem]
 have R1 : w2.cell? ⟨w.heap.size + 1 + 1, 1, none⟩ = some (.slice none 0 0) := by rw [hw2]; simp [*, go_sem]
 have Rf1 : w2.frozen? ⟨w.heap.size + 1 + 1, 1, none⟩ = false := by rw [hw2]; simp [*, go_sem]
 have R2 : w2.cell? ⟨w.heap.size + 1 + 1, 2, none⟩ = some (.bool false) := by rw [hw2]; simp [*, go_sem]
 have Rf2 : w2.frozen? ⟨w.heap.size + 1 + 1, 2, none⟩ = false := by rw [hw2]; simp [*, go_sem]
 have R3 : w2.cell? ⟨w.heap.size + 1 + 1, 3, none⟩ = some (.slice none 0 0) := by rw [hw2]; simp [*, go_sem]
 have Rf3 : w2.frozen? ⟨w.heap.size + 1 + 1, 3, none⟩ = false := by rw [hw2]; simp [*, go_sem]
 clear hw2 HB s0_0 s0_1 s0_2 s0_3 s1_0 s1_1 s1_2 s1_3 s2_0 s2_1 s2_2 s2_3 f0_0 f0_1 f0_2 f0_3 f1_0 f1_1 f1_2 f1_3 f2_0 f2_1 f2_2 f2_3 hk1 hk1a hk1b
 go_wp2_with fail
 refine (J6 _ _ _ _ _ _ _ _ _ _ _ (h'.keep HB2) qB qB).mono ?_
 rintro e w3 ⟨rfl, hb⟩
 have HB3 := HB2.trans (hb.mono HB2.size)
 (replace Bf0 := (Ab hb (Aa _ _ B0)).trans Bf0; replace Bf1 := (Ab hb (Aa _ _ B1)).trans Bf1; replace Bf2 := (Ab hb (Aa _ _ B2)).trans Bf2; replace Bf3 := (Ab hb (Aa _ _ B3)).trans Bf3; replace Rf0 := (Ab hb (Aa _ _ R0)).trans Rf0; replace Rf1 := (Ab hb (Aa _ _ R1)).trans Rf1; replace Rf2 := (Ab hb (Aa _ _ R2)).trans Rf2; replace Rf3 := (Ab hb (Aa _ _ R3)).trans Rf3; replace A0 := Au hb A0; replace A1 := Au hb A1; replace A2 := Au hb A2; replace A3 := Au hb A3; replace B0 := Au hb B0; replace B1 := Au hb B1; replace B2 := Au hb B2; replace B3 := Au hb B3; replace R0 := Au hb R0; replace R1 := Au hb R1; replace R2 := Au hb R2; replace R3 := Au hb R3)
 have hk3 : w.heap.size + 1 + 1 < w3.heap.size := Aa _ _ R0
 clear hb HB2
 go_upto_region 3 with fail
 refine Ck ?_
 intro w4 hw4
 have HB4 : Below w.heap.size w w4 := by rw [hw4]; go_grown
 have A0' : w4.cell? ⟨w.heap.size, 0, none⟩ = some (.bool g1) := by rw [hw4]; simp [*, go_sem]
 have A1' : w4.cell? ⟨w.heap.size, 1, none⟩ = some (.slice a1 n1 c1) := by rw [hw4]; simp [*, go_sem]
 have A2' : w4.cell? ⟨w.heap.size, 2, none⟩ = some (.bool g2) := by rw [hw4]; simp [*, go_sem]
 have A3' : w4.cell? ⟨w.heap.size, 3, none⟩ = some (.slice a2 n2 c2) := by rw [hw4]; simp [*, go_sem]
 have B0' : w4.cell? ⟨w.heap.size + 1, 0, none⟩ = some (.bool g3) := by rw [hw4]; simp [*, go_sem]
 have B1' : w4.cell? ⟨w.heap.size + 1, 1, none⟩ = some (.slice a3 n3 c3) := by rw [hw4]; simp [*, go_sem]
 have B2' : w4.cell? ⟨w.heap.size + 1, 2, none⟩ = some (.bool g4) := by rw [hw4]; simp [*, go_sem]
 have B3' : w4.cell? ⟨w.heap.size + 1, 3, none⟩ = some (.slice a4 n4 c4) := by rw [hw4]; simp [*, go_sem]
 have R0' : w4.cell? ⟨w.heap.size + 1 + 1, 0, none⟩ = some (.bool false) := by rw [hw4]; simp [*, go_sem]
 have Rf0' : w4.frozen? ⟨w.heap.size + 1 + 1, 0, none⟩ = false := by rw [hw4]; simp [*, go_sem]
 have R1' : w4.cell? ⟨w.heap.size + 1 + 1, 1, none⟩ = some (.slice none 0 0) := by rw [hw4]; simp [*, go_sem]
 have Rf1' : w4.frozen? ⟨w.heap.size + 1 + 1, 1, none⟩ = false := by rw [hw4]; simp [*, go_sem]
 have R2' : w4.cell? ⟨w.heap.size + 1 + 1, 2, none⟩ = some (.bool false) := by rw [hw4]; simp [*, go_sem]
 have Rf2' : w4.frozen? ⟨w.heap.size + 1 + 1, 2, none⟩ = false := by rw [hw4]; simp [*, go_sem]
 have R3' : w4.cell? ⟨w.heap.size + 1 + 1, 3, none⟩ = some (.slice none 0 0) := by rw [hw4]; simp [*, go_sem]
 have Rf3' : w4.frozen? ⟨w.heap.size + 1 + 1, 3, none⟩ = false := by rw [hw4]; simp [*, go_sem]
 clear hw4 HB3 hk3 A0 A1 A2 A3 B0 B1 B2 B3 R0 R1 R2 R3 Bf0 Bf1 Bf2 Bf3 Rf0 Rf1 Rf2 Rf3
 have A0 := A0'
 have A1 := A1'
 have A2 := A2'
 have A3 := A3'
 have B0 := B0'
 have B1 := B1'
 have B2 := B2'
 have B3 := B3'
 have R0 := R0'
 have Rf0 := Rf0'
 have R1 := R1'
 have Rf1 := Rf1'
 have R2 := R2'
 have Rf2 := Rf2'
 have R3 := R3'
 have Rf3 := Rf3'
 clear A0' A1' A2' A3' B0' B1' B2' B3' R0' R1' R2' R3' Rf0' Rf1' Rf2' Rf3'
 have h4 := h.keep HB4
 have h4' := h'.keep HB4
 have hk4 : w.heap.size + 1 + 1 < w4.heap.size := Aa _ _ R0
 have HB := Ac w4.heap.size w4
 go_region_held3 (fun W => W.cell? ⟨w.heap.size, 0, none⟩ = some (.bool g1) ∧ W.cell? ⟨w.heap.size, 1, none⟩ = some (.slice a1 n1 c1) ∧ W.cell? ⟨w.heap.size, 2, none⟩ = some (.bool g2) ∧ W.cell? ⟨w.heap.size, 3, none⟩ = some (.slice a2 n2 c2) ∧ W.cell? ⟨w.heap.size + 1, 0, none⟩ = some (.bool g3) ∧ W.cell? ⟨w.heap.size + 1, 1, none⟩ = some (.slice a3 n3 c3) ∧ W.cell? ⟨w.heap.size + 1, 2, none⟩ = some (.bool g4) ∧ W.cell? ⟨w.heap.size + 1, 3, none⟩ = some (.slice a4 n4 c4)) (first | ((try dsimp only); (repeat' apply And.intro); all_goals (first | (with_reducible assumption) | (go_keep; done) | (simp [*, go_sem]; done)))) (first
  | (go_at_call 203; (with_reducible refine (N8 _ _ _ _ _ _ (h4.top.keep qQ) _ _ _ _ _ (h4'.top.keep qQ) qB qB).mono ?_); rintro e w5 ⟨gx, ax, nx, cx, rfl, hx, hfx, hb⟩; replace HB : Below w4.heap.size w4 w5 := Al qQ (hb.mono qA); have hsz := HB.size; (replace Rf0 := (Ab HB (Aa _ _ R0)).trans Rf0; replace Rf1 := (Ab HB (Aa _ _ R1)).trans Rf1; replace Rf2 := (Ab HB (Aa _ _ R2)).trans Rf2; replace Rf3 := (Ab HB (Aa _ _ R3)).trans Rf3; replace A0 := Au HB A0; replace A1 := Au HB A1; replace A2 := Au HB A2; replace A3 := Au HB A3; replace B0 := Au HB B0; replace B1 := Au HB B1; replace B2 := Au HB B2; replace B3 := Au HB B3; replace R0 := Au HB R0; replace R1 := Au HB R1; replace R2 := Au HB R2; replace R3 := Au HB R3))
  | (go_at_call 203; (with_reducible refine (N8 _ _ _ _ _ _ (h4.low.keep qQ) _ _ _ _ _ (h4'.low.keep qQ) qB qB).mono ?_); rintro e w6 ⟨gy, ay, ny, cy, rfl, hy, hfy, hb6⟩; have hb56 : Below w5.heap.size w5 w6 := Al qQ (hb6.mono qA); replace HB : Below w4.heap.size w4 w6 := Al HB (hb56.mono qA); have hsz6 := HB.size; (replace Rf0 := (Ab hb56 (Aa _ _ R0)).trans Rf0; replace Rf1 := (Ab hb56 (Aa _ _ R1)).trans Rf1; replace Rf2 := (Ab hb56 (Aa _ _ R2)).trans Rf2; replace Rf3 := (Ab hb56 (Aa _ _ R3)).trans Rf3; replace A0 := Au hb56 A0; replace A1 := Au hb56 A1; replace A2 := Au hb56 A2; replace A3 := Au hb56 A3; replace B0 := Au hb56 B0; replace B1 := Au hb56 B1; replace B2 := Au hb56 B2; replace B3 := Au hb56 B3; replace R0 := Au hb56 R0; replace R1 := Au hb56 R1; replace R2 := Au hb56 R2; replace R3 := Au hb56 R3); have hx6 := hx.keep hb56; have hnx : nx < 35184372088829 := (by have h1 := hx.rd.len; have := HD.out.1; omega); have hny : ny < 35184372088829 := (by have h1 := hy.rd.len; have := HD.out.2; omega))
  | (go_at_call 204; (with_reducible refine (Qa _ _ _ _ _ (p * p') (hx6.keep qQ) _ _ _ _ (q * q') (hy.keep qQ) HQ.out hnx hny).mono ?_); rintro e w7 ⟨ge, ae, ne, ce, gf, af, nf, cf, rfl, hr, hfe, hff, hb7⟩; have hb67 : Below w6.heap.size w6 w7 := Al qQ (hb7.mono qA); replace HB : Below w4.heap.size w4 w7 := Al HB (hb67.mono qA); have hsz7 := HB.size; (replace Rf0 := (Ab hb67 (Aa _ _ R0)).trans Rf0; replace Rf1 := (Ab hb67 (Aa _ _ R1)).trans Rf1; replace Rf2 := (Ab hb67 (Aa _ _ R2)).trans Rf2; replace Rf3 := (Ab hb67 (Aa _ _ R3)).trans Rf3; replace A0 := Au hb67 A0; replace A1 := Au hb67 A1; replace A2 := Au hb67 A2; replace A3 := Au hb67 A3; replace B0 := Au hb67 B0; replace B1 := Au hb67 B1; replace B2 := Au hb67 B2; replace B3 := Au hb67 B3; replace R0 := Au hb67 R0; replace R1 := Au hb67 R1; replace R2 := Au hb67 R2; replace R3 := Au hb67 R3)))
 all_goals
  have fe : Av (w.heap.size + 1 + 1 + 1) w7 ae ce := hfe.mono qA
  have ff : Av (w.heap.size + 1 + 1 + 1) w7 af cf := hff.mono qA
  have u2 : w.heap.size + 1 + 1 < w.heap.size + 1 + 1 + 1 := Ag _
  have HW := HB4.trans (HB.mono HB4.size)
  go_wp2_with fail
  refine bodyPost_ret (v := .agg #[.bool ge, .slice ae ne ce, .bool gf, .slice af nf cf]) (by simp [results, Tryz.results200, go_sem, R0, R1, R2, R3]) rfl ?_
  exact qBq
def Ld (x0 x1 x2 x3 y0 y1 y2 y3 : Int) : Prop := x0 + y0 ≤ 65535 ∧ x1 + y1 ≤ 65535 ∧ x2 + y2 ≤ 65535 ∧ x3 + y3 ≤ 65535
theorem I9 (w : World) (x0 x1 x2 x3 y0 y1 y2 y3 : Int) (h0 : Db x0) (h1 : Db x1) (h2 : Db x2) (h3 : Db x3) (k0 : Db y0) (k1 : Db y1) (k2 : Db y2) (k3 : Db y3) :
  Calls Tryz.prog 197 #[.agg #[.int .u16 x0, .int .u16 x1, .int .u16 x2, .int .u16 x3], .agg #[.int .u16 y0, .int .u16 y1, .int .u16 y2, .int .u16 y3]] w fun e w' =>
   ((Ld x0 x1 x2 x3 y0 y1 y2 y3 ∧ e = .returned (.tuple #[.agg #[.int .u16 (x0 + y0), .int .u16 (x1 + y1), .int .u16 (x2 + y2), .int .u16 (x3 + y3)], .int .i64 0])) ∨ (¬ Ld x0 x1 x2 x3 y0 y1 y2 y3 ∧ e = .returned (.tuple #[.agg #[.int .u16 0, .int .u16 0, .int .u16 0, .int .u16 0], .int .i64 3]))) ∧ Below w.heap.size w w' := by
 have HU := Ae (And.intro (And.intro h0 k0) (And.intro (And.intro h1 k1) (And.intro (And.intro h2 k2) (And.intro h3 k3))))
 clear h0 h1 h2 h3 k0 k1 k2 k3
 have HB := Ac w.heap.size w
 go_enter Tryz.func197, Tryz.ntmps197
 go_wp2_with fail
 go_loopw [7] (fun v wr => ∃ k : Int, 0 ≤ k ∧ k ≤ 4 ∧ v = .int .i64 k ∧ Hid ((0 < k → x0 + y0 ≤ 65535) ∧ (1 < k → x1 + y1 ≤ 65535) ∧ (2 < k → x2 + y2 ≤ 65535) ∧ (3 < k → x3 + y3 ≤ 65535)) ∧ wr.cell? ⟨w.heap.size, 0, none⟩ = some (.int .u16 x0) ∧ wr.cell? ⟨w.heap.size, 1, none⟩ = some (.int .u16 x1) ∧ wr.cell? ⟨w.heap.size, 2, none⟩ = some (.int .u16 x2) ∧ wr.cell? ⟨w.heap.size, 3, none⟩ = some (.int .u16 x3) ∧ wr.cell? ⟨w.heap.size + 1, 0, none⟩ = some (.int .u16 y0) ∧ wr.cell? ⟨w.heap.size + 1, 1, none⟩ = some (.int .u16 y1) ∧ wr.cell? ⟨w.heap.size + 1, 2, none⟩ = some (.int .u16 y2) ∧ wr.cell? ⟨w.heap.size + 1, 3, none⟩ = some (.int .u16 y3) ∧ wr.cell? ⟨w.heap.size + 1 + 1, 0, none⟩ = some (.int .u16 0) ∧ wr.cell? ⟨w.heap.size + 1 + 1, 1, none⟩ = some (.int .u16 0) ∧ wr.cell? ⟨w.heap.size + 1 + 1, 2, none⟩ = some (.int .u16 0) ∧ wr.cell? ⟨w.heap.size + 1 + 1, 3, none⟩ = some (.int .u16 0) ∧ wr.cell? ⟨w.heap.size + 1 + 1 + 1, 0, none⟩ = some (.int .u16 (if 0 < k then x0 + y0 else 0)) ∧ wr.cell? ⟨w.heap.size + 1 + 1 + 1, 1, none⟩ = some (.int .u16 (if 1 < k then x1 + y1 else 0)) ∧ wr.cell? ⟨w.heap.size + 1 + 1 + 1, 2, none⟩ = some (.int .u16 (if 2 < k then x2 + y2 else 0)) ∧ wr.cell? ⟨w.heap.size + 1 + 1 + 1, 3, none⟩ = some (.int .u16 (if 3 < k then x3 + y3 else 0)) ∧ wr.frozen? ⟨w.heap.size + 1 + 1, 0, none⟩ = false ∧ wr.frozen? ⟨w.heap.size + 1 + 1, 1, none⟩ = false ∧ wr.frozen? ⟨w.heap.size + 1 + 1, 2, none⟩ = false ∧ wr.frozen? ⟨w.heap.size + 1 + 1, 3, none⟩ = false ∧ wr.frozen? ⟨w.heap.size + 1 + 1 + 1, 0, none⟩ = false ∧ wr.frozen? ⟨w.heap.size + 1 + 1 + 1, 1, none⟩ = false ∧ wr.frozen? ⟨w.heap.size + 1 + 1 + 1, 2, none⟩ = false ∧ wr.frozen? ⟨w.heap.size + 1 + 1 + 1, 3, none⟩ = false ∧ Below w.heap.size w wr) (fun v _ => 4 - (intOf v).toNat)
 case atStart => exact ⟨0, by omega, by omega, rfl, Ae ⟨by omega, by omega, by omega, by omega⟩, by simp [go_sem], by simp [go_sem], by simp [go_sem], by simp [go_sem], by simp [go_sem], by simp [go_sem], by simp [go_sem], by simp [go_sem], by simp [go_sem], by simp [go_sem], by simp [go_sem], by simp [go_sem], by simp [go_sem], by simp [go_sem], by simp [go_sem], by simp [go_sem], by simp [go_sem], by simp [go_sem], by simp [go_sem], by simp [go_sem], by simp [go_sem], by simp [go_sem], by simp [go_sem], by simp [go_sem], by go_grown⟩
 case round =>
  obtain ⟨k, hk0, hk4, rfl, he, X0, X1, X2, X3, Y0, Y1, Y2, Y3, R0, R1, R2, R3, O0, O1, O2, O3, Rf0, Rf1, Rf2, Rf3, Of0, Of1, Of2, Of3, HBr⟩ := hrel
  have hkw : w.heap.size + 1 + 1 + 1 < wr.heap.size := Aa _ _ O0
  rcases (by omega : k = 0 ∨ k = 1 ∨ k = 2 ∨ k = 3 ∨ k = 4) with rfl | rfl | rfl | rfl | rfl
  ·simp only [Int.reduceLT, if_true, if_false, reduceIte, Int.lt_irrefl] at O0 O1 O2 O3
   have q := HU.out.1
   have q1 := q.1
   have q2 := q.2
   unfold Db at q1 q2
   clear q
   have a1 : IntKind.i64.wrap x0 = x0 := IntWalk.i64_in _ qB
   have a2 : IntKind.i64.wrap y0 = y0 := IntWalk.i64_in _ qB
   have a3 : IntKind.i64.wrap (x0 + y0) = x0 + y0 := IntWalk.i64_in _ qB
   by_cases hs : x0 + y0 ≤ 65535
   ·have a4 : IntKind.u16.wrap (x0 + y0) = x0 + y0 := by first | exact IntWalk.u16_in _ qB | (simp only [IntKind.wrap, IntKind.bits, IntKind.signed]; omega)
    go_wp2_with fail
    go_quiet (fail)
    have HBq : Below w.heap.size w (wr.drewN nq) := Ay _ HBr
    go_wp2_with fail
    go_roundw
    case rel => exact ⟨1, by omega, by omega, by go_num, Ae (by have := he.out; omega), by simp [*, go_sem], by simp [*, go_sem], by simp [*, go_sem], by simp [*, go_sem], by simp [*, go_sem], by simp [*, go_sem], by simp [*, go_sem], by simp [*, go_sem], by simp [*, go_sem], by simp [*, go_sem], by simp [*, go_sem], by simp [*, go_sem], by simp [*, go_sem], by simp [*, go_sem], by simp [*, go_sem], by simp [*, go_sem], by simp [*, go_sem], by simp [*, go_sem], by simp [*, go_sem], by simp [*, go_sem], by simp [*, go_sem], by simp [*, go_sem], by simp [*, go_sem], by simp [*, go_sem], by go_grown⟩
    case measure => first | (first | (simp [intOf]; omega) | (simp [intOf]; done)) | decide | simp [intOf]
   ·exact qAw
  ·simp only [Int.reduceLT, if_true, if_false, reduceIte, Int.lt_irrefl] at O0 O1 O2 O3
   have q := HU.out.2.1
   have q1 := q.1
   have q2 := q.2
   unfold Db at q1 q2
   clear q
   have a1 : IntKind.i64.wrap x1 = x1 := IntWalk.i64_in _ qB
   have a2 : IntKind.i64.wrap y1 = y1 := IntWalk.i64_in _ qB
   have a3 : IntKind.i64.wrap (x1 + y1) = x1 + y1 := IntWalk.i64_in _ qB
   by_cases hs : x1 + y1 ≤ 65535
   ·have a4 : IntKind.u16.wrap (x1 + y1) = x1 + y1 := by first | exact IntWalk.u16_in _ qB | (simp only [IntKind.wrap, IntKind.bits, IntKind.signed]; omega)
    go_wp2_with fail
    go_quiet (fail)
    have HBq : Below w.heap.size w (wr.drewN nq) := Ay _ HBr
    go_wp2_with fail
    go_roundw
    case rel => exact ⟨2, by omega, by omega, by go_num, Ae (by have := he.out; omega), by simp [*, go_sem], by simp [*, go_sem], by simp [*, go_sem], by simp [*, go_sem], by simp [*, go_sem], by simp [*, go_sem], by simp [*, go_sem], by simp [*, go_sem], by simp [*, go_sem], by simp [*, go_sem], by simp [*, go_sem], by simp [*, go_sem], by simp [*, go_sem], by simp [*, go_sem], by simp [*, go_sem], by simp [*, go_sem], by simp [*, go_sem], by simp [*, go_sem], by simp [*, go_sem], by simp [*, go_sem], by simp [*, go_sem], by simp [*, go_sem], by simp [*, go_sem], by simp [*, go_sem], by go_grown⟩
    case measure => first | (first | (simp [intOf]; omega) | (simp [intOf]; done)) | decide | simp [intOf]
   ·exact qAw
  ·simp only [Int.reduceLT, if_true, if_false, reduceIte, Int.lt_irrefl] at O0 O1 O2 O3
   have q := HU.out.2.2.1
   have q1 := q.1
   have q2 := q.2
   unfold Db at q1 q2
   clear q
   have a1 : IntKind.i64.wrap x2 = x2 := IntWalk.i64_in _ qB
   have a2 : IntKind.i64.wrap y2 = y2 := IntWalk.i64_in _ qB
   have a3 : IntKind.i64.wrap (x2 + y2) = x2 + y2 := IntWalk.i64_in _ qB
   by_cases hs : x2 + y2 ≤ 65535
   ·have a4 : IntKind.u16.wrap (x2 + y2) = x2 + y2 := by first | exact IntWalk.u16_in _ qB | (simp only [IntKind.wrap, IntKind.bits, IntKind.signed]; omega)
    go_wp2_with fail
    go_quiet (fail)
    have HBq : Below w.heap.size w (wr.drewN nq) := Ay _ HBr
    go_wp2_with fail
    go_roundw
    case rel => exact ⟨3, by omega, by omega, by go_num, Ae (by have := he.out; omega), by simp [*, go_sem], by simp [*, go_sem], by simp [*, go_sem], by simp [*, go_sem], by simp [*, go_sem], by simp [*, go_sem], by simp [*, go_sem], by simp [*, go_sem], by simp [*, go_sem], by simp [*, go_sem], by simp [*, go_sem], by simp [*, go_sem], by simp [*, go_sem], by simp [*, go_sem], by simp [*, go_sem], by simp [*, go_sem], by simp [*, go_sem], by simp [*, go_sem], by simp [*, go_sem], by simp [*, go_sem], by simp [*, go_sem], by simp [*, go_sem], by simp [*, go_sem], by simp [*, go_sem], by go_grown⟩
    case measure => first | (first | (simp [intOf]; omega) | (simp [intOf]; done)) | decide | simp [intOf]
   ·exact qAw
  ·simp only [Int.reduceLT, if_true, if_false, reduceIte, Int.lt_irrefl] at O0 O1 O2 O3
   have q := HU.out.2.2.2
   have q1 := q.1
   have q2 := q.2
   unfold Db at q1 q2
   clear q
   have a1 : IntKind.i64.wrap x3 = x3 := IntWalk.i64_in _ qB
   have a2 : IntKind.i64.wrap y3 = y3 := IntWalk.i64_in _ qB
   have a3 : IntKind.i64.wrap (x3 + y3) = x3 + y3 := IntWalk.i64_in _ qB
   by_cases hs : x3 + y3 ≤ 65535
   ·have a4 : IntKind.u16.wrap (x3 + y3) = x3 + y3 := by first | exact IntWalk.u16_in _ qB | (simp only [IntKind.wrap, IntKind.bits, IntKind.signed]; omega)
    go_wp2_with fail
    go_quiet (fail)
    have HBq : Below w.heap.size w (wr.drewN nq) := Ay _ HBr
    go_wp2_with fail
    go_roundw
    case rel => exact ⟨4, by omega, by omega, by go_num, Ae (by have := he.out; omega), by simp [*, go_sem], by simp [*, go_sem], by simp [*, go_sem], by simp [*, go_sem], by simp [*, go_sem], by simp [*, go_sem], by simp [*, go_sem], by simp [*, go_sem], by simp [*, go_sem], by simp [*, go_sem], by simp [*, go_sem], by simp [*, go_sem], by simp [*, go_sem], by simp [*, go_sem], by simp [*, go_sem], by simp [*, go_sem], by simp [*, go_sem], by simp [*, go_sem], by simp [*, go_sem], by simp [*, go_sem], by simp [*, go_sem], by simp [*, go_sem], by simp [*, go_sem], by simp [*, go_sem], by go_grown⟩
    case measure => first | (first | (simp [intOf]; omega) | (simp [intOf]; done)) | decide | simp [intOf]
   ·exact qAw
  ·simp only [Int.reduceLT, if_true, if_false, reduceIte, Int.lt_irrefl] at O0 O1 O2 O3
   have HN : Hid (Ld x0 x1 x2 x3 y0 y1 y2 y3) := Ae (by have := he.out; unfold Ld; omega)
   go_wp2_with fail
   refine bodyPost_ret (v := .tuple #[.agg #[.int .u16 (x0 + y0), .int .u16 (x1 + y1), .int .u16 (x2 + y2), .int .u16 (x3 + y3)], .int .i64 0]) (by simp [*, results, Tryz.results197, go_sem]) rfl ?_
   exact ⟨Or.inl ⟨HN.out, rfl⟩, by go_grown⟩
end Go.Proofs.YtdamegaedmckbaaGreatDoor
end
