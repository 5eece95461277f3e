/- Package limbs: carry, at each of its closures. No condition. Package limbs: part, Add, and its closure. No condition. -/
import Derived.Test.YtdamegaedmckbaaGreatDoorX2
set_option linter.unusedSimpArgs false
set_option linter.unusedVariables false
section
namespace Go.Proofs.YtdamegaedmckbaaGreatDoor
open Go.RowKit

/-- What 'carry' answers: the digits of the sum of all. -/
def RetCarry (w : World) (m : Nat) (D : Nat → Int) (e : Ending) (w' : World) : Prop :=
  ∃ a, e = .returned (.slice a m m) ∧ RdL w' a m m (fxI m (sumB D m)) ∧ Fresh w.heap.size w' a m ∧ Below w.heap.size w w'
set_option maxRecDepth 100000 in
set_option maxHeartbeats 1000000 in
theorem carry_272 (w : World) (m : Nat) (c1 c2 c3 : Value) (D : Nat → Int) (hm : m ≤ 35184372088832)
    (hD : ∀ i, i < m → -4000000000000000000 ≤ D i ∧ D i ≤ 4000000000000000000)
    (hcall : ∀ (i : Nat) (W : World), i < m → Below w.heap.size w W → Calls Tryz.prog 272 #[.int .i64 i, c1, c2, c3] W fun e W' => e = .returned (.int .i64 (D i)) ∧ Below W.heap.size W W') :
    Calls Tryz.prog 271 #[.int .i64 m, .func (.func 272) #[] #[c1, c2, c3]] w (RetCarry w m D) := by
  obtain ⟨i0, hi, hz0, hz1, hz2⟩ := info_parts info112
  have HD := Lib.hid hD
  have HC := Lib.hid hcall
  clear hD hcall
  go_enter Tryz.func271, Tryz.ntmps271
  go_wp2_with (refine wpList_make_full _ rfl _ _ 57 rfl w.heap.size 112 i0 (.int .u32 0) 1 Tryz.underlying57 hi hz0 hz1 .i64 .i64 _ _ m rfl rfl rfl rfl (by rw [hz2]; omega) (by unfold maxLen; omega) (Nat.le_refl _) ?_; intro w1 hown1 hgrow1)
  have HB : Below w.heap.size w w1 := (Below.refl _ _).grown hgrow1 (Nat.le_refl _) (fun k h => by cases h)
  rw [Nat.mul_one, show Value.cells (.int .u32 0) = #[.int .u32 0] from rfl, toList_madeCells_one] at hown1
  clear hgrow1
  go_loopw [6, 7, 8, 13] (fun v6 _ _ v13 wr => ∃ (k : Nat) (on : Int), k ≤ m ∧ v13 = .int .i64 k ∧ v6 = .int .i64 on ∧ -5000000000 ≤ on ∧ on ≤ 5000000000 ∧ Hid (on = sumB D k / 1000000000 ^ k) ∧
      wr.ownsRow w.heap.size 112 1 (.slice (some ⟨w.heap.size, 0, none⟩) m m) m (vals (fxI k (sumB D k)) ++ List.replicate (m - k) (.int .u32 0)) ∧ Below w.heap.size w wr) (fun _ _ _ v13 _ => m - (intOf v13).toNat)
  case atStart => exact ⟨0, 0, Nat.zero_le _, rfl, rfl, by omega, by omega, Lib.hid (by simp [sumB]), by simpa [fxI, vals] using hown1, HB⟩
  case round =>
    obtain ⟨k, on, hk, rfl, rfl, ho1, ho2, hon, hown, HB⟩ := hrel
    have HBz := HB.size
    have hlt1 := (hown.lt w.heap.size rfl).2
    clear hown1
    by_cases hlt : k < m
    · have hDk := HD.out k hlt
      have hlen : (vals (fxI k (sumB D k))).length = k := by rw [vals_length, fxI_length]
      have hst : ∀ (W : World) (u : Value), W.ownsRow w.heap.size 112 1 (.slice (some ⟨w.heap.size, 0, none⟩) m m) m (vals (fxI k (sumB D k)) ++ List.replicate (m - k) (.int .u32 0)) → (W.setCell ⟨w.heap.size, k, none⟩ u).ownsRow w.heap.size 112 1 (.slice (some ⟨w.heap.size, 0, none⟩) m m) m (vals (fxI k (sumB D k)) ++ [u] ++ List.replicate (m - (k + 1)) (.int .u32 0)) := by
        intro W u h
        have := (h.stored k u).1
        rw [List.set_append_right _ _ (by omega), hlen, Nat.sub_self, show m - k = (m - (k + 1)) + 1 from by omega, List.replicate_succ, List.set_cons_zero] at this
        simpa using this
      have HST := Lib.hid hst
      have hdig := Lib.hid (sumB_digit D k)
      have hdiv := Lib.hid (sumB_div D k)
      clear hst hlen
      go_wp2_with fail
      refine (HC.out k wr hlt HB).mono ?_
      rintro e w2 ⟨rfl, hb⟩
      have hown2 := ownsRow_keep hown hb
      have HB2 : Below w.heap.size w w2 := HB.trans (hb.mono HBz)
      have HBz2 := HB2.size
      have hlt2 := (hown2.lt w.heap.size rfl).2
      have hcell := hown2.cellAt k (by omega)
      rw [List.getElem?_append_right (by rw [vals_length, fxI_length]; omega), vals_length, fxI_length, Nat.sub_self, List.getElem?_replicate, if_pos (by omega)] at hcell
      have hfr := hown2.frozenAt k
      clear hown HB HBz hlt1
      obtain ⟨dk, hdk⟩ : ∃ dk, dk = D k := ⟨_, rfl⟩
      rw [← hdk] at hDk hdig hdiv ⊢
      have HDK := Lib.hid hdk
      clear hdk
      by_cases hpos : 0 ≤ dk + on
      · have hm1 : (0 : Int) ≤ (dk + on) % 1000000000 ∧ (dk + on) % 1000000000 < 1000000000 := by omega
        have hq1 : (0 : Int) ≤ (dk + on) / 1000000000 ∧ (dk + on) / 1000000000 ≤ 5000000000 := by omega
        obtain ⟨hm1, hm2⟩ := hm1
        obtain ⟨hq1, hq2⟩ := hq1
        go_wp2_with fail
        go_roundw
        case rel =>
          refine ⟨k + 1, _, by omega, by go_num, rfl, by omega, by omega, Lib.hid (by rw [hdiv.out, ← hon.out]), ?_, by go_grown⟩
          have := HST.out w2 (.int .u32 ((dk + on) % 1000000000)) hown2
          rw [hdig.out, vals_append, ← hon.out]
          have e : vals [((dk + on) % 1000000000).toNat] = [.int .u32 ((dk + on) % 1000000000)] := by simp only [vals, List.map_cons, List.map_nil]; rw [Int.toNat_of_nonneg hm1]
          rw [e]
          exact this
        case measure => (first | (simp [intOf]; omega) | (simp [intOf]; done))
      · have ht := tdiv_neg (dk + on) (by omega)
        have HT := Lib.hid ht
        have hneg : dk + on < 0 := by omega
        clear hpos
        by_cases hz : (dk + on).tmod 1000000000 < 0
        · have hm1 : -1000000000 < (dk + on).tmod 1000000000 := by rw [ht.2]; omega
          have hq1 : -5000000000 ≤ (dk + on).tdiv 1000000000 := by rw [ht.1]; omega
          have hq2 : (dk + on).tdiv 1000000000 ≤ 0 := by rw [ht.1]; omega
          clear ht
          go_wp2_with fail
          go_roundw
          case rel =>
            have ht := HT.out
            have e1 : (dk + on).tmod 1000000000 + 1000000000 = (dk + on) % 1000000000 := by rw [ht.2] at hz ⊢; omega
            have e2 : (dk + on).tdiv 1000000000 - 1 = (dk + on) / 1000000000 := by rw [ht.2] at hz; rw [ht.1]; omega
            refine ⟨k + 1, _, by omega, by go_num, rfl, by omega, by omega, Lib.hid (by rw [hdiv.out, ← hon.out, e2]), ?_, by go_grown⟩
            have := HST.out w2 (.int .u32 ((dk + on).tmod 1000000000 + 1000000000)) hown2
            rw [hdig.out, vals_append, ← hon.out]
            have e : vals [((dk + on) % 1000000000).toNat] = [.int .u32 ((dk + on).tmod 1000000000 + 1000000000)] := by simp only [vals, List.map_cons, List.map_nil]; rw [Int.toNat_of_nonneg (by omega), e1]
            rw [e]
            exact this
          case measure => (first | (simp [intOf]; omega) | (simp [intOf]; done))
        · have hz0 : (dk + on).tmod 1000000000 = 0 := by rw [ht.2] at hz ⊢; omega
          have hq1 : -5000000000 ≤ (dk + on).tdiv 1000000000 := by rw [ht.1]; omega
          have hq2 : (dk + on).tdiv 1000000000 ≤ 0 := by rw [ht.1]; omega
          clear ht hz
          go_wp2_with fail
          go_roundw
          case rel =>
            have ht := HT.out
            have e1 : (dk + on) % 1000000000 = 0 := by rw [ht.2] at hz0; omega
            have e2 : (dk + on).tdiv 1000000000 = (dk + on) / 1000000000 := by rw [ht.1]; omega
            refine ⟨k + 1, _, by omega, by go_num, rfl, by omega, by omega, Lib.hid (by rw [hdiv.out, ← hon.out, e2]), ?_, by go_grown⟩
            have := HST.out w2 (.int .u32 0) hown2
            rw [hdig.out, vals_append, ← hon.out, e1]
            exact this
          case measure => (first | (simp [intOf]; omega) | (simp [intOf]; done))
    · obtain rfl : k = m := by omega
      go_wp2_with fail
      go_ret
      rw [Nat.sub_self, List.replicate_zero, List.append_nil] at hown
      refine ⟨_, rfl, rdl_of_owns hown hm (fun i => ?_), .of_owns hown, HB⟩
      by_cases hi2 : i < (fxI k (sumB D k)).length
      · have := fxI_lt k (sumB D k) _ (List.getElem_mem hi2)
        simp only [lim, List.getD, List.getElem?_eq_getElem hi2, Option.getD_some]
        omega
      · simp only [lim, List.getD, List.getElem?_eq_none (Nat.le_of_not_lt hi2), Option.getD_none]
        omega
set_option maxRecDepth 100000 in
set_option maxHeartbeats 1000000 in
theorem carry_328 (w : World) (m : Nat) (c1 c2 : Value) (D : Nat → Int) (hm : m ≤ 35184372088832)
    (hD : ∀ i, i < m → -4000000000000000000 ≤ D i ∧ D i ≤ 4000000000000000000)
    (hcall : ∀ (i : Nat) (W : World), i < m → Below w.heap.size w W → Calls Tryz.prog 328 #[.int .i64 i, c1, c2] W fun e W' => e = .returned (.int .i64 (D i)) ∧ Below W.heap.size W W') :
    Calls Tryz.prog 271 #[.int .i64 m, .func (.func 328) #[] #[c1, c2]] w (RetCarry w m D) := by
  obtain ⟨i0, hi, hz0, hz1, hz2⟩ := info_parts info112
  have HD := Lib.hid hD
  have HC := Lib.hid hcall
  clear hD hcall
  go_enter Tryz.func271, Tryz.ntmps271
  go_wp2_with (refine wpList_make_full _ rfl _ _ 57 rfl w.heap.size 112 i0 (.int .u32 0) 1 Tryz.underlying57 hi hz0 hz1 .i64 .i64 _ _ m rfl rfl rfl rfl (by rw [hz2]; omega) (by unfold maxLen; omega) (Nat.le_refl _) ?_; intro w1 hown1 hgrow1)
  have HB : Below w.heap.size w w1 := (Below.refl _ _).grown hgrow1 (Nat.le_refl _) (fun k h => by cases h)
  rw [Nat.mul_one, show Value.cells (.int .u32 0) = #[.int .u32 0] from rfl, toList_madeCells_one] at hown1
  clear hgrow1
  go_loopw [6, 7, 8, 13] (fun v6 _ _ v13 wr => ∃ (k : Nat) (on : Int), k ≤ m ∧ v13 = .int .i64 k ∧ v6 = .int .i64 on ∧ -5000000000 ≤ on ∧ on ≤ 5000000000 ∧ Hid (on = sumB D k / 1000000000 ^ k) ∧
      wr.ownsRow w.heap.size 112 1 (.slice (some ⟨w.heap.size, 0, none⟩) m m) m (vals (fxI k (sumB D k)) ++ List.replicate (m - k) (.int .u32 0)) ∧ Below w.heap.size w wr) (fun _ _ _ v13 _ => m - (intOf v13).toNat)
  case atStart => exact ⟨0, 0, Nat.zero_le _, rfl, rfl, by omega, by omega, Lib.hid (by simp [sumB]), by simpa [fxI, vals] using hown1, HB⟩
  case round =>
    obtain ⟨k, on, hk, rfl, rfl, ho1, ho2, hon, hown, HB⟩ := hrel
    have HBz := HB.size
    have hlt1 := (hown.lt w.heap.size rfl).2
    clear hown1
    by_cases hlt : k < m
    · have hDk := HD.out k hlt
      have hlen : (vals (fxI k (sumB D k))).length = k := by rw [vals_length, fxI_length]
      have hst : ∀ (W : World) (u : Value), W.ownsRow w.heap.size 112 1 (.slice (some ⟨w.heap.size, 0, none⟩) m m) m (vals (fxI k (sumB D k)) ++ List.replicate (m - k) (.int .u32 0)) → (W.setCell ⟨w.heap.size, k, none⟩ u).ownsRow w.heap.size 112 1 (.slice (some ⟨w.heap.size, 0, none⟩) m m) m (vals (fxI k (sumB D k)) ++ [u] ++ List.replicate (m - (k + 1)) (.int .u32 0)) := by
        intro W u h
        have := (h.stored k u).1
        rw [List.set_append_right _ _ (by omega), hlen, Nat.sub_self, show m - k = (m - (k + 1)) + 1 from by omega, List.replicate_succ, List.set_cons_zero] at this
        simpa using this
      have HST := Lib.hid hst
      have hdig := Lib.hid (sumB_digit D k)
      have hdiv := Lib.hid (sumB_div D k)
      clear hst hlen
      go_wp2_with fail
      refine (HC.out k wr hlt HB).mono ?_
      rintro e w2 ⟨rfl, hb⟩
      have hown2 := ownsRow_keep hown hb
      have HB2 : Below w.heap.size w w2 := HB.trans (hb.mono HBz)
      have HBz2 := HB2.size
      have hlt2 := (hown2.lt w.heap.size rfl).2
      have hcell := hown2.cellAt k (by omega)
      rw [List.getElem?_append_right (by rw [vals_length, fxI_length]; omega), vals_length, fxI_length, Nat.sub_self, List.getElem?_replicate, if_pos (by omega)] at hcell
      have hfr := hown2.frozenAt k
      clear hown HB HBz hlt1
      obtain ⟨dk, hdk⟩ : ∃ dk, dk = D k := ⟨_, rfl⟩
      rw [← hdk] at hDk hdig hdiv ⊢
      have HDK := Lib.hid hdk
      clear hdk
      by_cases hpos : 0 ≤ dk + on
      · have hm1 : (0 : Int) ≤ (dk + on) % 1000000000 ∧ (dk + on) % 1000000000 < 1000000000 := by omega
        have hq1 : (0 : Int) ≤ (dk + on) / 1000000000 ∧ (dk + on) / 1000000000 ≤ 5000000000 := by omega
        obtain ⟨hm1, hm2⟩ := hm1
        obtain ⟨hq1, hq2⟩ := hq1
        go_wp2_with fail
        go_roundw
        case rel =>
          refine ⟨k + 1, _, by omega, by go_num, rfl, by omega, by omega, Lib.hid (by rw [hdiv.out, ← hon.out]), ?_, by go_grown⟩
          have := HST.out w2 (.int .u32 ((dk + on) % 1000000000)) hown2
          rw [hdig.out, vals_append, ← hon.out]
          have e : vals [((dk + on) % 1000000000).toNat] = [.int .u32 ((dk + on) % 1000000000)] := by simp only [vals, List.map_cons, List.map_nil]; rw [Int.toNat_of_nonneg hm1]
          rw [e]
          exact this
        case measure => (first | (simp [intOf]; omega) | (simp [intOf]; done))
      · have ht := tdiv_neg (dk + on) (by omega)
        have HT := Lib.hid ht
        have hneg : dk + on < 0 := by omega
        clear hpos
        by_cases hz : (dk + on).tmod 1000000000 < 0
        · have hm1 : -1000000000 < (dk + on).tmod 1000000000 := by rw [ht.2]; omega
          have hq1 : -5000000000 ≤ (dk + on).tdiv 1000000000 := by rw [ht.1]; omega
          have hq2 : (dk + on).tdiv 1000000000 ≤ 0 := by rw [ht.1]; omega
          clear ht
          go_wp2_with fail
          go_roundw
          case rel =>
            have ht := HT.out
            have e1 : (dk + on).tmod 1000000000 + 1000000000 = (dk + on) % 1000000000 := by rw [ht.2] at hz ⊢; omega
            have e2 : (dk + on).tdiv 1000000000 - 1 = (dk + on) / 1000000000 := by rw [ht.2] at hz; rw [ht.1]; omega
            refine ⟨k + 1, _, by omega, by go_num, rfl, by omega, by omega, Lib.hid (by rw [hdiv.out, ← hon.out, e2]), ?_, by go_grown⟩
            have := HST.out w2 (.int .u32 ((dk + on).tmod 1000000000 + 1000000000)) hown2
            rw [hdig.out, vals_append, ← hon.out]
            have e : vals [((dk + on) % 1000000000).toNat] = [.int .u32 ((dk + on).tmod 1000000000 + 1000000000)] := by simp only [vals, List.map_cons, List.map_nil]; rw [Int.toNat_of_nonneg (by omega), e1]
            rw [e]
            exact this
          case measure => (first | (simp [intOf]; omega) | (simp [intOf]; done))
        · have hz0 : (dk + on).tmod 1000000000 = 0 := by rw [ht.2] at hz ⊢; omega
          have hq1 : -5000000000 ≤ (dk + on).tdiv 1000000000 := by rw [ht.1]; omega
          have hq2 : (dk + on).tdiv 1000000000 ≤ 0 := by rw [ht.1]; omega
          clear ht hz
          go_wp2_with fail
          go_roundw
          case rel =>
            have ht := HT.out
            have e1 : (dk + on) % 1000000000 = 0 := by rw [ht.2] at hz0; omega
            have e2 : (dk + on).tdiv 1000000000 = (dk + on) / 1000000000 := by rw [ht.1]; omega
            refine ⟨k + 1, _, by omega, by go_num, rfl, by omega, by omega, Lib.hid (by rw [hdiv.out, ← hon.out, e2]), ?_, by go_grown⟩
            have := HST.out w2 (.int .u32 0) hown2
            rw [hdig.out, vals_append, ← hon.out, e1]
            exact this
          case measure => (first | (simp [intOf]; omega) | (simp [intOf]; done))
    · obtain rfl : k = m := by omega
      go_wp2_with fail
      go_ret
      rw [Nat.sub_self, List.replicate_zero, List.append_nil] at hown
      refine ⟨_, rfl, rdl_of_owns hown hm (fun i => ?_), .of_owns hown, HB⟩
      by_cases hi2 : i < (fxI k (sumB D k)).length
      · have := fxI_lt k (sumB D k) _ (List.getElem_mem hi2)
        simp only [lim, List.getD, List.getElem?_eq_getElem hi2, Option.getD_some]
        omega
      · simp only [lim, List.getD, List.getElem?_eq_none (Nat.le_of_not_lt hi2), Option.getD_none]
        omega
set_option maxRecDepth 100000 in
set_option maxHeartbeats 1000000 in
theorem carry_299 (w : World) (m : Nat) (c1 c2 c3 : Value) (D : Nat → Int) (hm : m ≤ 35184372088832)
    (hD : ∀ i, i < m → -4000000000000000000 ≤ D i ∧ D i ≤ 4000000000000000000)
    (hcall : ∀ (i : Nat) (W : World), i < m → Below w.heap.size w W → Calls Tryz.prog 299 #[.int .i64 i, c1, c2, c3] W fun e W' => e = .returned (.int .i64 (D i)) ∧ Below W.heap.size W W') :
    Calls Tryz.prog 271 #[.int .i64 m, .func (.func 299) #[] #[c1, c2, c3]] w (RetCarry w m D) := by
  obtain ⟨i0, hi, hz0, hz1, hz2⟩ := info_parts info112
  have HD := Lib.hid hD
  have HC := Lib.hid hcall
  clear hD hcall
  go_enter Tryz.func271, Tryz.ntmps271
  go_wp2_with (refine wpList_make_full _ rfl _ _ 57 rfl w.heap.size 112 i0 (.int .u32 0) 1 Tryz.underlying57 hi hz0 hz1 .i64 .i64 _ _ m rfl rfl rfl rfl (by rw [hz2]; omega) (by unfold maxLen; omega) (Nat.le_refl _) ?_; intro w1 hown1 hgrow1)
  have HB : Below w.heap.size w w1 := (Below.refl _ _).grown hgrow1 (Nat.le_refl _) (fun k h => by cases h)
  rw [Nat.mul_one, show Value.cells (.int .u32 0) = #[.int .u32 0] from rfl, toList_madeCells_one] at hown1
  clear hgrow1
  go_loopw [6, 7, 8, 13] (fun v6 _ _ v13 wr => ∃ (k : Nat) (on : Int), k ≤ m ∧ v13 = .int .i64 k ∧ v6 = .int .i64 on ∧ -5000000000 ≤ on ∧ on ≤ 5000000000 ∧ Hid (on = sumB D k / 1000000000 ^ k) ∧
      wr.ownsRow w.heap.size 112 1 (.slice (some ⟨w.heap.size, 0, none⟩) m m) m (vals (fxI k (sumB D k)) ++ List.replicate (m - k) (.int .u32 0)) ∧ Below w.heap.size w wr) (fun _ _ _ v13 _ => m - (intOf v13).toNat)
  case atStart => exact ⟨0, 0, Nat.zero_le _, rfl, rfl, by omega, by omega, Lib.hid (by simp [sumB]), by simpa [fxI, vals] using hown1, HB⟩
  case round =>
    obtain ⟨k, on, hk, rfl, rfl, ho1, ho2, hon, hown, HB⟩ := hrel
    have HBz := HB.size
    have hlt1 := (hown.lt w.heap.size rfl).2
    clear hown1
    by_cases hlt : k < m
    · have hDk := HD.out k hlt
      have hlen : (vals (fxI k (sumB D k))).length = k := by rw [vals_length, fxI_length]
      have hst : ∀ (W : World) (u : Value), W.ownsRow w.heap.size 112 1 (.slice (some ⟨w.heap.size, 0, none⟩) m m) m (vals (fxI k (sumB D k)) ++ List.replicate (m - k) (.int .u32 0)) → (W.setCell ⟨w.heap.size, k, none⟩ u).ownsRow w.heap.size 112 1 (.slice (some ⟨w.heap.size, 0, none⟩) m m) m (vals (fxI k (sumB D k)) ++ [u] ++ List.replicate (m - (k + 1)) (.int .u32 0)) := by
        intro W u h
        have := (h.stored k u).1
        rw [List.set_append_right _ _ (by omega), hlen, Nat.sub_self, show m - k = (m - (k + 1)) + 1 from by omega, List.replicate_succ, List.set_cons_zero] at this
        simpa using this
      have HST := Lib.hid hst
      have hdig := Lib.hid (sumB_digit D k)
      have hdiv := Lib.hid (sumB_div D k)
      clear hst hlen
      go_wp2_with fail
      refine (HC.out k wr hlt HB).mono ?_
      rintro e w2 ⟨rfl, hb⟩
      have hown2 := ownsRow_keep hown hb
      have HB2 : Below w.heap.size w w2 := HB.trans (hb.mono HBz)
      have HBz2 := HB2.size
      have hlt2 := (hown2.lt w.heap.size rfl).2
      have hcell := hown2.cellAt k (by omega)
      rw [List.getElem?_append_right (by rw [vals_length, fxI_length]; omega), vals_length, fxI_length, Nat.sub_self, List.getElem?_replicate, if_pos (by omega)] at hcell
      have hfr := hown2.frozenAt k
      clear hown HB HBz hlt1
      obtain ⟨dk, hdk⟩ : ∃ dk, dk = D k := ⟨_, rfl⟩
      rw [← hdk] at hDk hdig hdiv ⊢
      have HDK := Lib.hid hdk
      clear hdk
      by_cases hpos : 0 ≤ dk + on
      · have hm1 : (0 : Int) ≤ (dk + on) % 1000000000 ∧ (dk + on) % 1000000000 < 1000000000 := by omega
        have hq1 : (0 : Int) ≤ (dk + on) / 1000000000 ∧ (dk + on) / 1000000000 ≤ 5000000000 := by omega
        obtain ⟨hm1, hm2⟩ := hm1
        obtain ⟨hq1, hq2⟩ := hq1
        go_wp2_with fail
        go_roundw
        case rel =>
          refine ⟨k + 1, _, by omega, by go_num, rfl, by omega, by omega, Lib.hid (by rw [hdiv.out, ← hon.out]), ?_, by go_grown⟩
          have := HST.out w2 (.int .u32 ((dk + on) % 1000000000)) hown2
          rw [hdig.out, vals_append, ← hon.out]
          have e : vals [((dk + on) % 1000000000).toNat] = [.int .u32 ((dk + on) % 1000000000)] := by simp only [vals, List.map_cons, List.map_nil]; rw [Int.toNat_of_nonneg hm1]
          rw [e]
          exact this
        case measure => (first | (simp [intOf]; omega) | (simp [intOf]; done))
      · have ht := tdiv_neg (dk + on) (by omega)
        have HT := Lib.hid ht
        have hneg : dk + on < 0 := by omega
        clear hpos
        by_cases hz : (dk + on).tmod 1000000000 < 0
        · have hm1 : -1000000000 < (dk + on).tmod 1000000000 := by rw [ht.2]; omega
          have hq1 : -5000000000 ≤ (dk + on).tdiv 1000000000 := by rw [ht.1]; omega
          have hq2 : (dk + on).tdiv 1000000000 ≤ 0 := by rw [ht.1]; omega
          clear ht
          go_wp2_with fail
          go_roundw
          case rel =>
            have ht := HT.out
            have e1 : (dk + on).tmod 1000000000 + 1000000000 = (dk + on) % 1000000000 := by rw [ht.2] at hz ⊢; omega
            have e2 : (dk + on).tdiv 1000000000 - 1 = (dk + on) / 1000000000 := by rw [ht.2] at hz; rw [ht.1]; omega
            refine ⟨k + 1, _, by omega, by go_num, rfl, by omega, by omega, Lib.hid (by rw [hdiv.out, ← hon.out, e2]), ?_, by go_grown⟩
            have := HST.out w2 (.int .u32 ((dk + on).tmod 1000000000 + 1000000000)) hown2
            rw [hdig.out, vals_append, ← hon.out]
            have e : vals [((dk + on) % 1000000000).toNat] = [.int .u32 ((dk + on).tmod 1000000000 + 1000000000)] := by simp only [vals, List.map_cons, List.map_nil]; rw [Int.toNat_of_nonneg (by omega), e1]
            rw [e]
            exact this
          case measure => (first | (simp [intOf]; omega) | (simp [intOf]; done))
        · have hz0 : (dk + on).tmod 1000000000 = 0 := by rw [ht.2] at hz ⊢; omega
          have hq1 : -5000000000 ≤ (dk + on).tdiv 1000000000 := by rw [ht.1]; omega
          have hq2 : (dk + on).tdiv 1000000000 ≤ 0 := by rw [ht.1]; omega
          clear ht hz
          go_wp2_with fail
          go_roundw
          case rel =>
            have ht := HT.out
            have e1 : (dk + on) % 1000000000 = 0 := by rw [ht.2] at hz0; omega
            have e2 : (dk + on).tdiv 1000000000 = (dk + on) / 1000000000 := by rw [ht.1]; omega
            refine ⟨k + 1, _, by omega, by go_num, rfl, by omega, by omega, Lib.hid (by rw [hdiv.out, ← hon.out, e2]), ?_, by go_grown⟩
            have := HST.out w2 (.int .u32 0) hown2
            rw [hdig.out, vals_append, ← hon.out, e1]
            exact this
          case measure => (first | (simp [intOf]; omega) | (simp [intOf]; done))
    · obtain rfl : k = m := by omega
      go_wp2_with fail
      go_ret
      rw [Nat.sub_self, List.replicate_zero, List.append_nil] at hown
      refine ⟨_, rfl, rdl_of_owns hown hm (fun i => ?_), .of_owns hown, HB⟩
      by_cases hi2 : i < (fxI k (sumB D k)).length
      · have := fxI_lt k (sumB D k) _ (List.getElem_mem hi2)
        simp only [lim, List.getD, List.getElem?_eq_getElem hi2, Option.getD_some]
        omega
      · simp only [lim, List.getD, List.getElem?_eq_none (Nat.le_of_not_lt hi2), Option.getD_none]
        omega
end Go.Proofs.YtdamegaedmckbaaGreatDoor
end
section
namespace Go.Proofs.YtdamegaedmckbaaGreatDoor
open Go.RowKit

theorem lim_out {d : List Nat} {i : Nat} (h : d.length ≤ i) : lim d i = 0 := by simp [lim, List.getElem?_eq_none h]
theorem part_c (w : World) (a : Option Addr) (n c : Nat) (d : List Nat) (i : Nat) (hd : RdL w a n c d) :
    Calls Tryz.prog 273 #[.slice a n c, .int .i64 i] w fun e w' => e = .returned (.int .i64 (lim d i)) ∧ w = w' := by
  by_cases h : i < n
  · obtain ⟨b, o, rfl, c1⟩ := hd.at' h
    have hn := hd.few
    have hs := hd.small i
    go_enter Tryz.func273, Tryz.ntmps273
    go_wp2
    go_ret
    exact ⟨rfl, rfl⟩
  · have e : lim d i = 0 := lim_out (by rw [hd.len]; omega)
    rw [e]
    have h' : n ≤ i := by omega
    go_enter Tryz.func273, Tryz.ntmps273
    go_wp2
    go_ret
    exact ⟨rfl, rfl⟩
set_option maxHeartbeats 400000 in
theorem Add1_pos (w : World) (A S C : Nat) (a : Option Addr) (n c : Nat) (d : List Nat) (a' : Option Addr) (n' c' : Nat) (d' : List Nat) (i : Nat) (hd : RdL w a n c d) (hd' : RdL w a' n' c' d')
    (h1 : w.cell? ⟨A, 1, none⟩ = some (.slice a n c)) (h2 : w.cell? ⟨S, 0, none⟩ = some (.int .i64 1)) (h3 : w.cell? ⟨C, 1, none⟩ = some (.slice a' n' c')) :
    Calls Tryz.prog 272 #[.int .i64 i, .pointer (some ⟨A, 0, none⟩), .pointer (some ⟨S, 0, none⟩), .pointer (some ⟨C, 0, none⟩)] w fun e w' => e = .returned (.int .i64 (lim d i + lim d' i)) ∧ Below w.heap.size w w' := by
  have hs := hd.small i
  have hs' := hd'.small i
  go_enter Tryz.func272, Tryz.ntmps272
  go_wp2
  go_quiet ((first | (go_at_call 273; first | exact quietL (part_c _ _ _ _ d i (hd.keep (below_drewN _ (Below.refl _ _)))) | exact quietL (part_c _ _ _ _ d' i (hd'.keep (below_drewN _ (Below.refl _ _)))) | exact quietAL (part_c _ _ _ _ d i (hd.keep (below_drewN _ (Below.refl _ _)))) | exact quietAL (part_c _ _ _ _ d' i (hd'.keep (below_drewN _ (Below.refl _ _)))))))
  go_wp2
  go_ret
  exact ⟨rfl, below_drewN _ (Below.refl _ _)⟩
set_option maxHeartbeats 400000 in
theorem Add1_neg (w : World) (A S C : Nat) (a : Option Addr) (n c : Nat) (d : List Nat) (a' : Option Addr) (n' c' : Nat) (d' : List Nat) (i : Nat) (hd : RdL w a n c d) (hd' : RdL w a' n' c' d')
    (h1 : w.cell? ⟨A, 1, none⟩ = some (.slice a n c)) (h2 : w.cell? ⟨S, 0, none⟩ = some (.int .i64 (-1))) (h3 : w.cell? ⟨C, 1, none⟩ = some (.slice a' n' c')) :
    Calls Tryz.prog 272 #[.int .i64 i, .pointer (some ⟨A, 0, none⟩), .pointer (some ⟨S, 0, none⟩), .pointer (some ⟨C, 0, none⟩)] w fun e w' => e = .returned (.int .i64 (lim d i - lim d' i)) ∧ Below w.heap.size w w' := by
  have hs := hd.small i
  have hs' := hd'.small i
  go_enter Tryz.func272, Tryz.ntmps272
  go_wp2
  go_quiet ((first | (go_at_call 273; first | exact quietL (part_c _ _ _ _ d i (hd.keep (below_drewN _ (Below.refl _ _)))) | exact quietL (part_c _ _ _ _ d' i (hd'.keep (below_drewN _ (Below.refl _ _)))) | exact quietAL (part_c _ _ _ _ d i (hd.keep (below_drewN _ (Below.refl _ _)))) | exact quietAL (part_c _ _ _ _ d' i (hd'.keep (below_drewN _ (Below.refl _ _)))))))
  go_wp2
  go_ret
  exact ⟨by simp [Int.sub_eq_add_neg], below_drewN _ (Below.refl _ _)⟩
theorem add_sum (d d' : List Nat) (m : Nat) (h : d.length < m) (h' : d'.length < m) : sumB (fun i => lim d i + lim d' i) m = ((val d + val d' : Nat) : Int) := by
  rw [sumB_add (fun i => lim d i) (fun i => lim d' i), show sumB (fun i => lim d i) m = val d from sumB_list d m (by omega), show sumB (fun i => lim d' i) m = val d' from sumB_list d' m (by omega)]
  omega
theorem sub_sum (d d' : List Nat) (m : Nat) (h : d.length < m) (h' : d'.length < m) (hv : val d' ≤ val d) : sumB (fun i => lim d i - lim d' i) m = ((val d - val d' : Nat) : Int) := by
  have e : sumB (fun i => lim d i - lim d' i) m = sumB (fun i => lim d i + (fun i => (-1) * lim d' i) i) m := sumB_congr (fun i _ => by show lim d i - lim d' i = lim d i + (-1) * lim d' i; omega)
  rw [e, sumB_add (fun i => lim d i) (fun i => (-1) * lim d' i), sumB_mul (fun i => lim d' i), show sumB (fun i => lim d i) m = val d from sumB_list d m (by omega), show sumB (fun i => lim d' i) m = val d' from sumB_list d' m (by omega)]
  omega
theorem val_fxI (m N : Nat) (h : N < 1000000000 ^ m) : val (fxI m (N : Int)) = N := by rw [fxI_nat, val_fx m N h]
theorem carry_272' (w : World) (M : Int) (m : Nat) (hM : M = m) (c1 c2 c3 : Value) (D : Nat → Int) (hm : m ≤ 35184372088832)
    (hD : ∀ i, i < m → -4000000000000000000 ≤ D i ∧ D i ≤ 4000000000000000000)
    (hcall : ∀ (i : Nat) (W : World), i < m → Below w.heap.size w W → Calls Tryz.prog 272 #[.int .i64 i, c1, c2, c3] W fun e W' => e = .returned (.int .i64 (D i)) ∧ Below W.heap.size W W') :
    Calls Tryz.prog 271 #[.int .i64 M, .func (.func 272) #[] #[c1, c2, c3]] w (RetCarry w m D) := by
  subst hM
  exact carry_272 w m c1 c2 c3 D hm hD hcall
end Go.Proofs.YtdamegaedmckbaaGreatDoor
end
