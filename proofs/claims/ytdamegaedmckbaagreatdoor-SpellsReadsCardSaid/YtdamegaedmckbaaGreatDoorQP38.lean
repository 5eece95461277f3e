/- The document's answer, layer 2: Add. -/
import Derived.Test.YtdamegaedmckbaaGreatDoorQP31
set_option linter.unusedSimpArgs false
set_option linter.unusedVariables false
set_option maxRecDepth 100000
set_option maxHeartbeats 4000000
section
namespace Go.Proofs.YtdamegaedmckbaaGreatDoor
open Go.RowKit
theorem Wo (w : World) (g1 : Bool) (a1 : Option Addr) (n1 c1 : Nat) (p : Int) (g2 : Bool) (a2 : Option Addr) (n2 c2 : Nat) (q : Int) (h : Bj w g1 a1 n1 c1 p g2 a2 n2 c2 q)
    (g3 : Bool) (a3 : Option Addr) (n3 c3 : Nat) (p' : Int) (g4 : Bool) (a4 : Option Addr) (n4 c4 : Nat) (q' : Int) (h' : Bj w g3 a3 n3 c3 p' g4 a4 n4 c4 q') (hb1 : n1 ≤ 1000000000) (hb2 : n2 ≤ 1000000000) (hb3 : n3 ≤ 1000000000) (hb4 : n4 ≤ 1000000000) :
    Calls Tryz.prog 136 #[.agg #[.bool g1, .slice a1 n1 c1, .bool g2, .slice a2 n2 c2], .agg #[.bool g3, .slice a3 n3 c3, .bool g4, .slice a4 n4 c4]] w (Hx w (Fz (p * q' + p' * q) (q * q')) (Fj (p * q' + p' * q) (q * q'))) := by
  have e1 := h.top.rd.len
  have e2 := h.low.rd.len
  have e3 := h'.top.rd.len
  have e4 := h'.low.rd.len
  have i1 := Ci p q'
  have i2 := Ci p' q
  have i3 := Mo (p * q') (p' * q)
  have i4 := Ci q q'
  have HD : Hid ((dg (p * q').natAbs).length < 35184372088829 ∧ (dg (p' * q).natAbs).length < 35184372088829 ∧ (dg (p * q' + p' * q).natAbs).length < 35184372088829 ∧ (dg (q * q').natAbs).length < 35184372088829) := Ae qB
  have HQ : Hid (0 < q * q') := Ae (Int.mul_pos h.pos h'.pos)
  clear e1 e2 e3 e4 i1 i2 i3 i4
  have HB := Ac w.heap.size w
  go_enter Tryz.func136, Tryz.ntmps136
  go_wp2_with fail
  refine (J6 _ _ _ _ _ _ _ _ _ _ _ (h.keep qF) qB qB).mono ?_
  rintro e w1 ⟨rfl, hb⟩
  obtain ⟨hc, hf⟩ := Ax hb; have hz := hb.size; (try simp only [Aj, Ak] at hz)
  replace HB := zD w hb
  obtain ⟨s0_0, s0_1⟩ := qX hc (w.heap.size) (.bool g1) (.slice a1 n1 c1); obtain ⟨s0_2, s0_3⟩ := qY hc (w.heap.size) (.bool g2) (.slice a2 n2 c2); obtain ⟨s1_0, s1_1⟩ := qX hc (w.heap.size + 1) (.bool g3) (.slice a3 n3 c3); obtain ⟨s1_2, s1_3⟩ := qY hc (w.heap.size + 1) (.bool g4) (.slice a4 n4 c4); obtain ⟨s2_0, s2_1⟩ := qZ hc (w.heap.size + 1 + 1); obtain ⟨s2_2, s2_3⟩ := qY hc (w.heap.size + 1 + 1) (.bool false) (.slice none 0 0); obtain ⟨f2_0, f2_1⟩ := zA hf (w.heap.size + 1 + 1); obtain ⟨f2_2, f2_3⟩ := zB hf (w.heap.size + 1 + 1); obtain ⟨f0_0, f0_1⟩ := zA hf (w.heap.size); obtain ⟨f0_2, f0_3⟩ := zB hf (w.heap.size); obtain ⟨f1_0, f1_1⟩ := zA hf (w.heap.size + 1); obtain ⟨f1_2, f1_3⟩ := zB hf (w.heap.size + 1)
  have hk1 : w.heap.size + 1 + 1 < w1.heap.size := by omega
  have hk1a : w.heap.size < w1.heap.size := by omega
  have hk1b : w.heap.size + 1 < w1.heap.size := by omega
  clear hc hf hb hz
  go_upto_region 2 with fail
  refine Ck ?_
  intro w2 hw2
  have HB2 : Below w.heap.size w w2 := by rw [hw2]; go_grown
  have A0 : w2.cell? ⟨w.heap.size, 0, none⟩ = some (.bool g1) := by rw [hw2]; simp [*, go_sem]
  have A1 : w2.cell? ⟨w.heap.size, 1, none⟩ = some (.slice a1 n1 c1) := by rw [hw2]; simp [*, go_sem]
  have A2 : w2.cell? ⟨w.heap.size, 2, none⟩ = some (.bool g2) := by rw [hw2]; simp [*, go_sem]
  have A3 : w2.cell? ⟨w.heap.size, 3, none⟩ = some (.slice a2 n2 c2) := by rw [hw2]; simp [*, go_sem]
  have B0 : w2.cell? ⟨w.heap.size + 1, 0, none⟩ = some (.bool g3) := by rw [hw2]; simp [*, go_sem]
  have Bf0 : w2.frozen? ⟨w.heap.size + 1, 0, none⟩ = false := by rw [hw2]; simp [*, go_sem]
  have B1 : w2.cell? ⟨w.heap.size + 1, 1, none⟩ = some (.slice a3 n3 c3) := by rw [hw2]; simp [*, go_sem]
  have Bf1 : w2.frozen? ⟨w.heap.size + 1, 1, none⟩ = false := by rw [hw2]; simp [*, go_sem]
  have B2 : w2.cell? ⟨w.heap.size + 1, 2, none⟩ = some (.bool g4) := by rw [hw2]; simp [*, go_sem]
  have Bf2 : w2.frozen? ⟨w.heap.size + 1, 2, none⟩ = false := by rw [hw2]; simp [*, go_sem]
  have B3 : w2.cell? ⟨w.heap.size + 1, 3, none⟩ = some (.slice a4 n4 c4) := by rw [hw2]; simp [*, go_sem]
  have Bf3 : w2.frozen? ⟨w.heap.size + 1, 3, none⟩ = false := by rw [hw2]; simp [*, go_sem]
  have R0 : w2.cell? ⟨w.heap.size + 1 + 1, 0, none⟩ = some (.bool false) := by rw [hw2]; simp [*, go_sem]
  have Rf0 : w2.frozen? ⟨w.heap.size + 1 + 1, 0, none⟩ = false := by rw [hw2]; simp [*, go_sem]
  have R1 : w2.cell? ⟨w.heap.size + 1 + 1, 1, none⟩ = some (.slice none 0 0) := by rw [hw2]; simp [*, go_sem]
  have Rf1 : w2.frozen? ⟨w.heap.size + 1 + 1, 1, none⟩ = false := by rw [hw2]; simp [*, go_sem]
  have R2 : w2.cell? ⟨w.heap.size + 1 + 1, 2, none⟩ = some (.bool false) := by rw [hw2]; simp [*, go_sem]
  have Rf2 : w2.frozen? ⟨w.heap.size + 1 + 1, 2, none⟩ = false := by rw [hw2]; simp [*, go_sem]
  have R3 : w2.cell? ⟨w.heap.size + 1 + 1, 3, none⟩ = some (.slice none 0 0) := by rw [hw2]; simp [*, go_sem]
  have Rf3 : w2.frozen? ⟨w.heap.size + 1 + 1, 3, none⟩ = false := by rw [hw2]; simp [*, go_sem]
  clear hw2 HB s0_0 s0_1 s0_2 s0_3 s1_0 s1_1 s1_2 s1_3 s2_0 s2_1 s2_2 s2_3 f0_0 f0_1 f0_2 f0_3 f1_0 f1_1 f1_2 f1_3 f2_0 f2_1 f2_2 f2_3 hk1 hk1a hk1b
  go_wp2_with fail
  refine (J6 _ _ _ _ _ _ _ _ _ _ _ (h'.keep HB2) qB qB).mono ?_
  rintro e w3 ⟨rfl, hb⟩
  have HB3 := HB2.trans (hb.mono HB2.size)
  (replace Bf0 := (Ab hb (Aa _ _ B0)).trans Bf0; replace Bf1 := (Ab hb (Aa _ _ B1)).trans Bf1; replace Bf2 := (Ab hb (Aa _ _ B2)).trans Bf2; replace Bf3 := (Ab hb (Aa _ _ B3)).trans Bf3; replace Rf0 := (Ab hb (Aa _ _ R0)).trans Rf0; replace Rf1 := (Ab hb (Aa _ _ R1)).trans Rf1; replace Rf2 := (Ab hb (Aa _ _ R2)).trans Rf2; replace Rf3 := (Ab hb (Aa _ _ R3)).trans Rf3; replace A0 := Au hb A0; replace A1 := Au hb A1; replace A2 := Au hb A2; replace A3 := Au hb A3; replace B0 := Au hb B0; replace B1 := Au hb B1; replace B2 := Au hb B2; replace B3 := Au hb B3; replace R0 := Au hb R0; replace R1 := Au hb R1; replace R2 := Au hb R2; replace R3 := Au hb R3)
  have hk3 : w.heap.size + 1 + 1 < w3.heap.size := Aa _ _ R0
  clear hb HB2
  go_upto_region 3 with fail
  refine Ck ?_
  intro w4 hw4
  have HB4 : Below w.heap.size w w4 := by rw [hw4]; go_grown
  have A0' : w4.cell? ⟨w.heap.size, 0, none⟩ = some (.bool g1) := by rw [hw4]; simp [*, go_sem]
  have A1' : w4.cell? ⟨w.heap.size, 1, none⟩ = some (.slice a1 n1 c1) := by rw [hw4]; simp [*, go_sem]
  have A2' : w4.cell? ⟨w.heap.size, 2, none⟩ = some (.bool g2) := by rw [hw4]; simp [*, go_sem]
  have A3' : w4.cell? ⟨w.heap.size, 3, none⟩ = some (.slice a2 n2 c2) := by rw [hw4]; simp [*, go_sem]
  have B0' : w4.cell? ⟨w.heap.size + 1, 0, none⟩ = some (.bool g3) := by rw [hw4]; simp [*, go_sem]
  have B1' : w4.cell? ⟨w.heap.size + 1, 1, none⟩ = some (.slice a3 n3 c3) := by rw [hw4]; simp [*, go_sem]
  have B2' : w4.cell? ⟨w.heap.size + 1, 2, none⟩ = some (.bool g4) := by rw [hw4]; simp [*, go_sem]
  have B3' : w4.cell? ⟨w.heap.size + 1, 3, none⟩ = some (.slice a4 n4 c4) := by rw [hw4]; simp [*, go_sem]
  have R0' : w4.cell? ⟨w.heap.size + 1 + 1, 0, none⟩ = some (.bool false) := by rw [hw4]; simp [*, go_sem]
  have Rf0' : w4.frozen? ⟨w.heap.size + 1 + 1, 0, none⟩ = false := by rw [hw4]; simp [*, go_sem]
  have R1' : w4.cell? ⟨w.heap.size + 1 + 1, 1, none⟩ = some (.slice none 0 0) := by rw [hw4]; simp [*, go_sem]
  have Rf1' : w4.frozen? ⟨w.heap.size + 1 + 1, 1, none⟩ = false := by rw [hw4]; simp [*, go_sem]
  have R2' : w4.cell? ⟨w.heap.size + 1 + 1, 2, none⟩ = some (.bool false) := by rw [hw4]; simp [*, go_sem]
  have Rf2' : w4.frozen? ⟨w.heap.size + 1 + 1, 2, none⟩ = false := by rw [hw4]; simp [*, go_sem]
  have R3' : w4.cell? ⟨w.heap.size + 1 + 1, 3, none⟩ = some (.slice none 0 0) := by rw [hw4]; simp [*, go_sem]
  have Rf3' : w4.frozen? ⟨w.heap.size + 1 + 1, 3, none⟩ = false := by rw [hw4]; simp [*, go_sem]
  clear hw4 HB3 hk3 A0 A1 A2 A3 B0 B1 B2 B3 R0 R1 R2 R3 Bf0 Bf1 Bf2 Bf3 Rf0 Rf1 Rf2 Rf3
  have A0 := A0'
  have A1 := A1'
  have A2 := A2'
  have A3 := A3'
  have B0 := B0'
  have B1 := B1'
  have B2 := B2'
  have B3 := B3'
  have R0 := R0'
  have Rf0 := Rf0'
  have R1 := R1'
  have Rf1 := Rf1'
  have R2 := R2'
  have Rf2 := Rf2'
  have R3 := R3'
  have Rf3 := Rf3'
  clear A0' A1' A2' A3' B0' B1' B2' B3' R0' R1' R2' R3' Rf0' Rf1' Rf2' Rf3'
  have h4 := h.keep HB4
  have h4' := h'.keep HB4
  have hk4 : w.heap.size + 1 + 1 < w4.heap.size := Aa _ _ R0
  have HB := Ac w4.heap.size w4
  go_cut [5] (fun v5 wx => ∃ T gs as' ns cs, v5 = .pointer (some ⟨T, 0, none⟩) ∧ w.heap.size + 1 + 1 < T ∧ wx.cell? ⟨T, 0, none⟩ = some (.bool gs) ∧ wx.cell? ⟨T, 1, none⟩ = some (.slice as' ns cs) ∧ A4 wx gs as' ns cs (p * q' + p' * q) ∧ Below w4.heap.size w4 wx)
  case first =>
    go_region_held3 (fun W => W.cell? ⟨w.heap.size, 0, none⟩ = some (.bool g1) ∧ W.cell? ⟨w.heap.size, 1, none⟩ = some (.slice a1 n1 c1) ∧ W.cell? ⟨w.heap.size, 2, none⟩ = some (.bool g2) ∧ W.cell? ⟨w.heap.size, 3, none⟩ = some (.slice a2 n2 c2) ∧ W.cell? ⟨w.heap.size + 1, 0, none⟩ = some (.bool g3) ∧ W.cell? ⟨w.heap.size + 1, 1, none⟩ = some (.slice a3 n3 c3) ∧ W.cell? ⟨w.heap.size + 1, 2, none⟩ = some (.bool g4) ∧ W.cell? ⟨w.heap.size + 1, 3, none⟩ = some (.slice a4 n4 c4)) (first | ((try dsimp only); (repeat' apply And.intro); all_goals (first | (with_reducible assumption) | (go_keep; done) | (simp [*, go_sem]; done)))) (first
      | (go_at_call 203; (with_reducible refine (N8 _ _ _ _ _ _ (h4.top.keep qQ) _ _ _ _ _ (h4'.low.keep qQ) qB qB).mono ?_); rintro e w5 ⟨gx, ax, nx, cx, rfl, hx, hfx, hb⟩; have hz := hb.size; (try simp only [Aj, Ak] at hz); obtain ⟨hcx, hfzx⟩ := Ax hb; replace HB : Below w4.heap.size w4 w5 := Al qQ (hb.mono qA); have hsz := HB.size; (try have r45 : w4.heap.size < w5.heap.size := qB); (replace Rf0 := (Ab HB (Aa _ _ R0)).trans Rf0; replace Rf1 := (Ab HB (Aa _ _ R1)).trans Rf1; replace Rf2 := (Ab HB (Aa _ _ R2)).trans Rf2; replace Rf3 := (Ab HB (Aa _ _ R3)).trans Rf3; replace A0 := Au HB A0; replace A1 := Au HB A1; replace A2 := Au HB A2; replace A3 := Au HB A3; replace B0 := Au HB B0; replace B1 := Au HB B1; replace B2 := Au HB B2; replace B3 := Au HB B3; replace R0 := Au HB R0; replace R1 := Au HB R1; replace R2 := Au HB R2; replace R3 := Au HB R3); have hnx : nx < 35184372088829 := (by have h1 := hx.rd.len; have := HD.out.1; omega))
      | (go_at_call 203; (with_reducible refine (N8 _ _ _ _ _ _ (h4'.top.keep qQ) _ _ _ _ _ (h4.low.keep qQ) qB qB).mono ?_); rintro e w6 ⟨gy, ay, ny, cy, rfl, hy, hfy, hb6⟩; have hz := hb6.size; (try simp only [Aj, Ak] at hz); obtain ⟨hcy, hfzy⟩ := Ax hb6; have hb56 : Below w5.heap.size w5 w6 := Al qQ (hb6.mono qA); replace HB : Below w4.heap.size w4 w6 := Al HB (hb56.mono qA); have hsz6 := HB.size; (try have r46 : w4.heap.size < w6.heap.size := qB); (try have r56 : w5.heap.size < w6.heap.size := qB); (replace Rf0 := (Ab hb56 (Aa _ _ R0)).trans Rf0; replace Rf1 := (Ab hb56 (Aa _ _ R1)).trans Rf1; replace Rf2 := (Ab hb56 (Aa _ _ R2)).trans Rf2; replace Rf3 := (Ab hb56 (Aa _ _ R3)).trans Rf3; replace A0 := Au hb56 A0; replace A1 := Au hb56 A1; replace A2 := Au hb56 A2; replace A3 := Au hb56 A3; replace B0 := Au hb56 B0; replace B1 := Au hb56 B1; replace B2 := Au hb56 B2; replace B3 := Au hb56 B3; replace R0 := Au hb56 R0; replace R1 := Au hb56 R1; replace R2 := Au hb56 R2; replace R3 := Au hb56 R3); have hx6 := hx.keep hb56; have hny : ny < 35184372088829 := (by have h1 := hy.rd.len; have := HD.out.2.1; omega))
      | (go_at_call 202; (with_reducible refine (Ue _ _ _ _ _ (p * q') (hx6.keep qQ) _ _ _ _ (p' * q) (hy.keep qQ) qB qB).mono ?_); rintro e w7 ⟨gs, as', ns, cs, rfl, hs, hfs, hb7⟩; have hz := hb7.size; (try simp only [Aj, Ak] at hz); obtain ⟨hcs, hfzs⟩ := Ax hb7; have hb67 : Below w6.heap.size w6 w7 := Al qQ (hb7.mono qA); replace HB : Below w4.heap.size w4 w7 := Al HB (hb67.mono qA); have hsz7 := HB.size; (try have r47 : w4.heap.size < w7.heap.size := qB); (try have r57 : w5.heap.size < w7.heap.size := qB); (try have r67 : w6.heap.size < w7.heap.size := qB); (replace Rf0 := (Ab hb67 (Aa _ _ R0)).trans Rf0; replace Rf1 := (Ab hb67 (Aa _ _ R1)).trans Rf1; replace Rf2 := (Ab hb67 (Aa _ _ R2)).trans Rf2; replace Rf3 := (Ab hb67 (Aa _ _ R3)).trans Rf3; replace A0 := Au hb67 A0; replace A1 := Au hb67 A1; replace A2 := Au hb67 A2; replace A3 := Au hb67 A3; replace B0 := Au hb67 B0; replace B1 := Au hb67 B1; replace B2 := Au hb67 B2; replace B3 := Au hb67 B3; replace R0 := Au hb67 R0; replace R1 := Au hb67 R1; replace R2 := Au hb67 R2; replace R3 := Au hb67 R3)))
    all_goals
      go_wp2_with fail
      go_meet
      case rel =>
        first
          | exact ⟨w7.heap.size, gs, as', ns, cs, rfl, by omega, by simp [go_sem], by simp [go_sem], hs.keep qF, by go_grown⟩
          | (refine ⟨w6.heap.size, gs, as', ns, cs, rfl, by omega, ?_, ?_, ?_, by go_grown⟩
             · simp [*, go_sem]
             · simp [*, go_sem]
             · have f := hfs.mono (B' := w6.heap.size + 1) qU
               exact (hs.setFresh f _ _ (Ag _)).setFresh (f.setNew _ _ (Ag _)) _ _ (Ag _))
          | (refine ⟨w5.heap.size, gs, as', ns, cs, rfl, by omega, ?_, ?_, ?_, by go_grown⟩
             · simp [*, go_sem]
             · simp [*, go_sem]
             · have f := hfs.mono (B' := w5.heap.size + 1) qU
               exact (hs.setFresh f _ _ (Ag _)).setFresh (f.setNew _ _ (Ag _)) _ _ (Ag _))
          | (refine ⟨w4.heap.size, gs, as', ns, cs, rfl, by omega, ?_, ?_, ?_, by go_grown⟩
             · simp [*, go_sem]
             · simp [*, go_sem]
             · have f := hfs.mono (B' := w4.heap.size + 1) qU
               exact (hs.setFresh f _ _ (Ag _)).setFresh (f.setNew _ _ (Ag _)) _ _ (Ag _))
  case rest =>
    clear HB
    obtain ⟨T, gs, as', ns, cs, rfl, hT, T0, T1, hs, HB⟩ := hcut
    obtain ⟨wt, rfl⟩ : ∃ x : World, x = wc := ⟨_, rfl⟩
    (replace Rf0 := (Ab HB (Aa _ _ R0)).trans Rf0; replace Rf1 := (Ab HB (Aa _ _ R1)).trans Rf1; replace Rf2 := (Ab HB (Aa _ _ R2)).trans Rf2; replace Rf3 := (Ab HB (Aa _ _ R3)).trans Rf3; replace A0 := Au HB A0; replace A1 := Au HB A1; replace A2 := Au HB A2; replace A3 := Au HB A3; replace B0 := Au HB B0; replace B1 := Au HB B1; replace B2 := Au HB B2; replace B3 := Au HB B3; replace R0 := Au HB R0; replace R1 := Au HB R1; replace R2 := Au HB R2; replace R3 := Au HB R3)
    have hns : ns < 35184372088829 := by have h1 := hs.rd.len; have := HD.out.2.2.1; omega
    have HBT := HB4.trans (HB.mono HB4.size)
    have h5 := h.keep HBT
    have h5' := h'.keep HBT
    have hkt : w.heap.size + 1 + 1 < wt.heap.size := Aa _ _ R0
    clear HB HB4 h4 h4' hk4
    have HB := Ac wt.heap.size wt
    first | go_upto_region 4 with fail | go_wp2_with fail
    go_region_held3 (fun W => W.cell? ⟨w.heap.size, 2, none⟩ = some (.bool g2) ∧ W.cell? ⟨w.heap.size, 3, none⟩ = some (.slice a2 n2 c2) ∧ W.cell? ⟨w.heap.size + 1, 2, none⟩ = some (.bool g4) ∧ W.cell? ⟨w.heap.size + 1, 3, none⟩ = some (.slice a4 n4 c4) ∧ W.cell? ⟨T, 0, none⟩ = some (.bool gs) ∧ W.cell? ⟨T, 1, none⟩ = some (.slice as' ns cs)) (first | ((try dsimp only); (repeat' apply And.intro); all_goals (first | (with_reducible assumption) | (go_keep; done) | (simp [*, go_sem]; done)))) (first
      | (go_at_call 203; (with_reducible refine (N8 _ _ _ _ _ _ (h5.low.keep qQ) _ _ _ _ _ (h5'.low.keep qQ) qB qB).mono ?_); rintro e w6 ⟨gy, ay, ny, cy, rfl, hy, hfy, hb6⟩; replace HB : Below wt.heap.size wt w6 := Al qQ (hb6.mono qA); have hsz6 := HB.size; (replace Rf0 := (Ab HB (Aa _ _ R0)).trans Rf0; replace Rf1 := (Ab HB (Aa _ _ R1)).trans Rf1; replace Rf2 := (Ab HB (Aa _ _ R2)).trans Rf2; replace Rf3 := (Ab HB (Aa _ _ R3)).trans Rf3; replace A0 := Au HB A0; replace A1 := Au HB A1; replace A2 := Au HB A2; replace A3 := Au HB A3; replace B0 := Au HB B0; replace B1 := Au HB B1; replace B2 := Au HB B2; replace B3 := Au HB B3; replace R0 := Au HB R0; replace R1 := Au HB R1; replace R2 := Au HB R2; replace R3 := Au HB R3; replace T0 := Au HB T0; replace T1 := Au HB T1); have hs6 := hs.keep HB; have hny : ny < 35184372088829 := (by have h1 := hy.rd.len; have := HD.out.2.2.2; omega))
      | (go_at_call 204; (with_reducible refine (Qa _ _ _ _ _ (p * q' + p' * q) (hs6.keep qQ) _ _ _ _ (q * q') (hy.keep qQ) HQ.out hns hny).mono ?_); rintro e w7 ⟨ge, ae, ne, ce, gf, af, nf, cf, rfl, hr, hfe, hff, hb7⟩; have hb67 : Below w6.heap.size w6 w7 := Al qQ (hb7.mono qA); replace HB : Below wt.heap.size wt w7 := Al HB (hb67.mono qA); have hsz7 := HB.size; (replace Rf0 := (Ab hb67 (Aa _ _ R0)).trans Rf0; replace Rf1 := (Ab hb67 (Aa _ _ R1)).trans Rf1; replace Rf2 := (Ab hb67 (Aa _ _ R2)).trans Rf2; replace Rf3 := (Ab hb67 (Aa _ _ R3)).trans Rf3; replace A0 := Au hb67 A0; replace A1 := Au hb67 A1; replace A2 := Au hb67 A2; replace A3 := Au hb67 A3; replace B0 := Au hb67 B0; replace B1 := Au hb67 B1; replace B2 := Au hb67 B2; replace B3 := Au hb67 B3; replace R0 := Au hb67 R0; replace R1 := Au hb67 R1; replace R2 := Au hb67 R2; replace R3 := Au hb67 R3; replace T0 := Au hb67 T0; replace T1 := Au hb67 T1)))
    all_goals
      have fe : Av (w.heap.size + 1 + 1 + 1) w7 ae ce := hfe.mono qA
      have ff : Av (w.heap.size + 1 + 1 + 1) w7 af cf := hff.mono qA
      have u2 : w.heap.size + 1 + 1 < w.heap.size + 1 + 1 + 1 := Ag _
      have HW := HBT.trans (HB.mono HBT.size)
      go_wp2_with fail
      refine bodyPost_ret (v := .agg #[.bool ge, .slice ae ne ce, .bool gf, .slice af nf cf]) (by simp [results, Tryz.results136, go_sem, R0, R1, R2, R3]) rfl ?_
      exact qBq
theorem K0 (w : World) (g1 : Bool) (a1 : Option Addr) (n1 c1 : Nat) (p : Int) (g2 : Bool) (a2 : Option Addr) (n2 c2 : Nat) (q : Int) (h : Bj w g1 a1 n1 c1 p g2 a2 n2 c2 q) (hs : n2 ≤ 1000000) (hb1 : n1 ≤ 1000000) :
  Calls Tryz.prog 135 #[.agg #[.bool g1, .slice a1 n1 c1, .bool g2, .slice a2 n2 c2]] w (Hx w p q) := by
 have HB := Ac w.heap.size w
 go_enter Tryz.func135, Tryz.ntmps135
 go_wp2_with fail
 refine (V5 _ _ _ _ _ _ _ _ _ _ _ (h.keep qF) qB qB).mono ?_
 rintro e w1 ⟨g3, a3, n3, c3, g4, a4, n4, c4, rfl, h3, hfr3, hfr4, hb⟩
 obtain ⟨hc, hf⟩ := Ax hb; have hz := hb.size; (try simp only [Aj, Ak] at hz)
 replace HB := zD w hb
 obtain ⟨s0_0, s0_1⟩ := qX hc (w.heap.size) (.bool g1) (.slice a1 n1 c1); obtain ⟨s0_2, s0_3⟩ := qY hc (w.heap.size) (.bool g2) (.slice a2 n2 c2); obtain ⟨s1_0, s1_1⟩ := qZ hc (w.heap.size + 1); obtain ⟨s1_2, s1_3⟩ := qY hc (w.heap.size + 1) (.bool false) (.slice none 0 0); obtain ⟨f1_0, f1_1⟩ := zA hf (w.heap.size + 1); obtain ⟨f1_2, f1_3⟩ := zB hf (w.heap.size + 1); obtain ⟨f0_0, f0_1⟩ := zA hf (w.heap.size); obtain ⟨f0_2, f0_3⟩ := zB hf (w.heap.size)
 have hk1 : w.heap.size + 1 < w1.heap.size := by omega
 have hk0 : w.heap.size < w1.heap.size := by omega
 have e1 := h3.top.rd.len
 have e2 := h3.low.rd.len
 have e3 := h.top.rd.len
 have e4 := h.low.rd.len
 have e5 : (-p).natAbs = p.natAbs := Int.natAbs_neg p
 rw [e5] at e1
 clear hc hf hb hz e5
 go_wp2_with fail
 refine (V5 _ _ _ _ _ _ _ _ _ _ _ h3 qB qB).mono ?_
 rintro e w2 ⟨g5, a5, n5, c5, g6, a6, n6, c6, rfl, h5, hfr5, hfr6, hb⟩
 have HB2 := HB.trans (hb.mono HB.size)
 (replace f1_0 := (Ab hb (Aa _ _ s1_0)).trans f1_0; replace s1_0 := Au hb s1_0; replace f1_1 := (Ab hb (Aa _ _ s1_1)).trans f1_1; replace s1_1 := Au hb s1_1; replace f1_2 := (Ab hb (Aa _ _ s1_2)).trans f1_2; replace s1_2 := Au hb s1_2; replace f1_3 := (Ab hb (Aa _ _ s1_3)).trans f1_3; replace s1_3 := Au hb s1_3)
 have hk2 : w.heap.size + 1 < w2.heap.size := by have := hb.size; omega
 have fe : Av (w.heap.size + 1 + 1) w2 a5 c5 := hfr5.mono qB
 have ff : Av (w.heap.size + 1 + 1) w2 a6 c6 := hfr6.mono qB
 rw [Int.neg_neg] at h5
 clear hb HB
 go_wp2_with fail
 refine bodyPost_ret (v := .agg #[.bool g5, .slice a5 n5 c5, .bool g6, .slice a6 n6 c6]) (by simp [results, Tryz.results135, go_sem, s1_0, s1_1, s1_2, s1_3]) rfl ?_
 have u : w.heap.size + 1 < w.heap.size + 1 + 1 := Ag _
 refine ⟨g5, a5, n5, c5, g6, a6, n6, c6, rfl, ⟨?_, ?_, h.pos, h.red⟩, ?_, ?_, by go_grown⟩
 ·exact h5.top.set4 fe ⟨w.heap.size + 1, 0, none⟩ ⟨w.heap.size + 1, 1, none⟩ ⟨w.heap.size + 1, 2, none⟩ ⟨w.heap.size + 1, 3, none⟩ _ _ _ _ u u u u
 ·exact h5.low.set4 ff ⟨w.heap.size + 1, 0, none⟩ ⟨w.heap.size + 1, 1, none⟩ ⟨w.heap.size + 1, 2, none⟩ ⟨w.heap.size + 1, 3, none⟩ _ _ _ _ u u u u
 ·exact (fe.set4 ⟨w.heap.size + 1, 0, none⟩ ⟨w.heap.size + 1, 1, none⟩ ⟨w.heap.size + 1, 2, none⟩ ⟨w.heap.size + 1, 3, none⟩ _ _ _ _ u u u u).mono qB
 ·exact (ff.set4 ⟨w.heap.size + 1, 0, none⟩ ⟨w.heap.size + 1, 1, none⟩ ⟨w.heap.size + 1, 2, none⟩ ⟨w.heap.size + 1, 3, none⟩ _ _ _ _ u u u u).mono qB
end Go.Proofs.YtdamegaedmckbaaGreatDoor
end
