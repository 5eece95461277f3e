/- The document's answer, layer 3: Cmp by OrLex. -/
import Derived.Test.YtdamegaedmckbaaGreatDoorS21
import Derived.WalkLawsBesides
set_option linter.unusedSimpArgs false
set_option linter.unusedVariables false
set_option linter.unusedSimpArgs false
set_option linter.unusedVariables false
namespace Go.Proofs.YtdamegaedmckbaaGreatDoor
open Go.RowKit

def InU16 (x : Int) : Prop := 0 ≤ x ∧ x < 65536

theorem quad_in {x0 x1 x2 x3 : Int} (h0 : InU16 x0) (h1 : InU16 x1) (h2 : InU16 x2) (h3 : InU16 x3) (k : Nat) : 0 ≤ quad x0 x1 x2 x3 k ∧ quad x0 x1 x2 x3 k < 65536 := by
  match k with
  | 0 => exact h0
  | 1 => exact h1
  | 2 => exact h2
  | n + 3 => exact h3

set_option maxRecDepth 100000 in
set_option maxHeartbeats 1000000 in
theorem rCmp_c (w : World) (x0 x1 x2 x3 y0 y1 y2 y3 : Int) (h0 : InU16 x0) (h1 : InU16 x1) (h2 : InU16 x2) (h3 : InU16 x3) (k0 : InU16 y0) (k1 : InU16 y1) (k2 : InU16 y2) (k3 : InU16 y3) :
    Calls Tryz.prog 134 #[.int .u8 0, .agg #[.int .u16 x0, .int .u16 x1, .int .u16 x2, .int .u16 x3], .agg #[.int .u16 y0, .int .u16 y1, .int .u16 y2, .int .u16 y3]] w fun e w' => e = .returned (.int .i64 (lexF (quad x0 x1 x2 x3) (quad y0 y1 y2 y3))) ∧ Below w.heap.size w w' := by
  have HX := Lib.hid (quad_in h0 h1 h2 h3)
  have HY := Lib.hid (quad_in k0 k1 k2 k3)
  clear h0 h1 h2 h3 k0 k1 k2 k3
  go_enter Tryz.func134, Tryz.ntmps134
  go_wp2_with fail
  have HF : Hid (∀ i, i < 4 → ((w.alloc (.cells #[.int .u16 x0, .int .u16 x1, .int .u16 x2, .int .u16 x3] 66)).alloc (.cells #[.int .u16 y0, .int .u16 y1, .int .u16 y2, .int .u16 y3] 66)).cell? ⟨w.heap.size, i, none⟩ = some (.int .u16 (quad x0 x1 x2 x3 i))) := Lib.hid (fun i hi => by
    match i, hi with
    | 0, _ => simp [go_sem, quad]
    | 1, _ => simp [go_sem, quad]
    | 2, _ => simp [go_sem, quad]
    | 3, _ => simp [go_sem, quad])
  have HG : Hid (∀ i, i < 4 → ((w.alloc (.cells #[.int .u16 x0, .int .u16 x1, .int .u16 x2, .int .u16 x3] 66)).alloc (.cells #[.int .u16 y0, .int .u16 y1, .int .u16 y2, .int .u16 y3] 66)).cell? ⟨w.heap.size + 1, i, none⟩ = some (.int .u16 (quad y0 y1 y2 y3 i))) := Lib.hid (fun i hi => by
    match i, hi with
    | 0, _ => simp [go_sem, quad]
    | 1, _ => simp [go_sem, quad]
    | 2, _ => simp [go_sem, quad]
    | 3, _ => simp [go_sem, quad])
  have HB : Below w.heap.size w ((w.alloc (.cells #[.int .u16 x0, .int .u16 x1, .int .u16 x2, .int .u16 x3] 66)).alloc (.cells #[.int .u16 y0, .int .u16 y1, .int .u16 y2, .int .u16 y3] 66)) := by go_grown
  generalize ((w.alloc (.cells #[.int .u16 x0, .int .u16 x1, .int .u16 x2, .int .u16 x3] 66)).alloc (.cells #[.int .u16 y0, .int .u16 y1, .int .u16 y2, .int .u16 y3] 66)) = w1 at *
  go_loopw [9] (fun v wr => ∃ k : Nat, k ≤ 4 ∧ v = .int .i64 k ∧ Hid (∀ j, j < k → quad x0 x1 x2 x3 j = quad y0 y1 y2 y3 j) ∧ Below w1.heap.size w1 wr) (fun v _ => 4 - (intOf v).toNat)
  case atStart => exact ⟨0, by omega, rfl, Lib.hid (fun j hj => by omega), Below.refl _ _⟩
  case round =>
    obtain ⟨k, hk, rfl, he, hBr⟩ := hrel
    have HBr : Below w.heap.size w wr := HB.trans (hBr.mono HB.size)
    by_cases hlt : k < 4
    · have c1 := cell_keep hBr (HF.out k hlt)
      have c2 := cell_keep hBr (HG.out k hlt)
      have hx := HX.out k
      have hy := HY.out k
      have HL := Lib.hid (fun h => lexF_at (f := quad x0 x1 x2 x3) (g := quad y0 y1 y2 y3) hlt he.out h)
      have HE := Lib.hid (show quad x0 x1 x2 x3 k = quad y0 y1 y2 y3 k → ∀ j, j < k + 1 → quad x0 x1 x2 x3 j = quad y0 y1 y2 y3 j from fun h j hj => by
          rcases Nat.lt_or_ge j k with h' | h'
          · exact he.out j h'
          · obtain rfl : j = k := by omega
            exact h)
      generalize quad x0 x1 x2 x3 k = x at *
      generalize quad y0 y1 y2 y3 k = y at *
      have w1x : IntKind.i64.wrap x = x := IntWalk.i64_in _ (by omega)
      have w1y : IntKind.i64.wrap y = y := IntWalk.i64_in _ (by omega)
      have w1d : IntKind.i64.wrap (x - y) = x - y := IntWalk.i64_in _ (by omega)
      rcases Int.lt_trichotomy x y with h | h | h
      · have HR := Lib.hid ((HL.out (by omega)).trans (cmpI_lt h))
        have hq : (x == y) = false := by rw [beq_eq_false_iff_ne]; omega
        have hq2 : (x != y) = true := by rw [bne_iff_ne]; omega
        go_wp2_with fail
        go_quiet (fail)
        go_wp2_with fail
        go_quiet (fail)
        go_wp2_with fail
        go_ret
        exact ⟨by rw [HR.out]; show Ending.returned (.int .i64 (min 1 (max (-1) (x - y)))) = _; rw [show min 1 (max (-1) (x - y)) = -1 by omega], below_drewN _ (below_drewN _ HBr)⟩
      · have HQ := Lib.hid h
        subst h
        go_wp2_with fail
        go_quiet (fail)
        go_wp2_with fail
        go_roundw
        case rel => exact ⟨k + 1, by omega, by go_num, Lib.hid (HE.out (by first | trivial | rfl)), below_drewN _ hBr⟩
        case measure => (first | (simp [intOf]; omega) | (simp [intOf]; done))
      · have HR := Lib.hid ((HL.out (by omega)).trans (cmpI_gt h))
        have hq : (x == y) = false := by rw [beq_eq_false_iff_ne]; omega
        have hq2 : (x != y) = true := by rw [bne_iff_ne]; omega
        go_wp2_with fail
        go_quiet (fail)
        go_wp2_with fail
        go_quiet (fail)
        go_wp2_with fail
        go_ret
        exact ⟨by rw [HR.out]; show Ending.returned (.int .i64 (min 1 (max (-1) (x - y)))) = _; rw [show min 1 (max (-1) (x - y)) = 1 by omega], below_drewN _ (below_drewN _ HBr)⟩
    · obtain rfl : k = 4 := by omega
      have HR := Lib.hid (lexF_eq he.out)
      go_wp2_with fail
      go_ret
      exact ⟨by rw [HR.out]; rfl, HBr⟩
end Go.Proofs.YtdamegaedmckbaaGreatDoor
