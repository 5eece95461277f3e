/- The document's answer, layer 1: Of, Twin, Neg, order. -/
import Derived.Test.YtdamegaedmckbaaGreatDoorS26
import Derived.Test.YtdamegaedmckbaaGreatDoorS27
set_option linter.unusedSimpArgs false
set_option linter.unusedVariables false
set_option linter.unusedSimpArgs false
namespace Go.Proofs.YtdamegaedmckbaaGreatDoor
open Go.RowKit

set_option maxRecDepth 100000 in
set_option maxHeartbeats 1000000 in
theorem rOf_pos (w : World) (A : Nat) (hA : A ≤ 9223372036854775807) : Calls Tryz.prog 189 #[.int .i64 (A : Int)] w (RetNum w (A : Int)) := by
  obtain ⟨i0, hi, hz0, hz1, hz2⟩ := info_parts info112
  have HB := Below.refl w.heap.size w
  go_enter Tryz.func189, Tryz.ntmps189
  go_wp2_with fail
  go_loopw [4, 5] (fun v3 v4 wr => ∃ (l : List Nat) (v : Nat), v3 = .int .u64 v ∧ Hid (val l + 1000000000 ^ l.length * v = A) ∧ l.length ≤ 3 ∧ v ≤ 9223372036854775808 ∧ (∀ x ∈ l, x < 1000000000) ∧ wr.ownsRow (w.heap.size + 1) 112 1 v4 l.length (vals l) ∧ w.heap.size < wr.heap.size ∧ wr.cell? ⟨w.heap.size, 0, none⟩ = some (.bool false) ∧ wr.cell? ⟨w.heap.size, 1, none⟩ = some (.slice none 0 0) ∧ wr.frozen? ⟨w.heap.size, 0, none⟩ = false ∧ wr.frozen? ⟨w.heap.size, 1, none⟩ = false ∧ Below w.heap.size w wr) (fun v3 _ _ => (intOf v3).toNat)
  case atStart => exact ⟨[], A, (by first | rfl | exact congrArg (Value.int .u64) (u64_back A hA hA0)), Lib.hid (by simp [val]), by simp, by omega, fun x hx => (by cases hx), World.ownsRow_nil _ _ _ _, by simp, by simp [go_sem], by simp [go_sem], by simp [go_sem], by simp [go_sem], by go_grown⟩
  case round =>
    obtain ⟨l, v, rfl, hv, hl3, hvb, hlt, hown, hlr, k0, k1, f0, f1, HB⟩ := hrel
    have HBz := HB.size
    have HLT := Lib.hid hlt
    clear hlt
    by_cases hp : 0 < v
    · have hl2 := few_digits hv.out (by omega) hp
      have hst := Lib.hid (step_digits hv.out)
      go_wp2_with (at_builtin; refine wpList_append_own _ rfl _ _ 57 rfl (w.heap.size + 1) 112 i0 (.int .u32 0) 1 4 Tryz.underlying57 hi hz0 hz1 hz2 rfl (by decide) _ _ _ rfl (hown.alloc _) ⟨wr.heap.size, 0, none⟩ 1 1 [.int .u32 ((v : Int) % 1000000000)] rfl rfl (cell_one_new _ _ _) (by simp [Value.oneCell']) (by unfold maxLen; omega) (by omega) (by go_size) ?_; intro v' w2 hown2 hgrow2 _)
      have hb2 : Below (w.heap.size + 1) wr w2 := ((Below.refl (w.heap.size + 1) wr).alloc (by omega) _).grown hgrow2 (by go_size) (fun k hk => (hown.lt k hk).1)
      go_roundw
      case rel =>
        refine ⟨l ++ [v % 1000000000], v / 1000000000, by simp, Lib.hid hst.out, by simp; omega, by omega, fun x hx => ?_, ?_, Nat.lt_of_lt_of_le hlr hb2.size, ?_, ?_, ?_, ?_, HB.trans (hb2.mono (by omega))⟩
        · rcases List.mem_append.1 hx with h | h
          · exact HLT.out x h
          · rw [List.mem_singleton] at h; omega
        · rw [List.length_append, List.length_singleton, vals_append]
          exact hown2
        · rw [hb2.cell (by show w.heap.size < w.heap.size + 1; omega)]; exact k0
        · rw [hb2.cell (by show w.heap.size < w.heap.size + 1; omega)]; exact k1
        · rw [hb2.frozen (by show w.heap.size < w.heap.size + 1; omega)]; exact f0
        · rw [hb2.frozen (by show w.heap.size < w.heap.size + 1; omega)]; exact f1
      case measure => simp [intOf]; omega
    · obtain rfl : v = 0 := by omega
      have hv0 := Lib.hid (show val l = A by have := hv.out; simpa using this)
      obtain ⟨a', c', rfl, hr, hfr⟩ := owns_list hown (by omega) (fun i => lim_small_of_lt (fun x hx => by have := HLT.out x hx; omega) i)
      go_wp2_with fail
      refine (rnum_c _ false a' l.length c' l hr HLT.out).mono ?_
      rintro e w3 ⟨g3, n3, rfl, hn3, hnum, hb⟩
      obtain ⟨hc, hf⟩ := bcell hb; have hz := hb.size
      replace HB : Below w.heap.size w w3 := HB.trans (hb.mono HBz)
      have r0 : w3.cell? ⟨w.heap.size, 0, none⟩ = some (.bool false) := (hc _ _ hlr).trans k0
      have r1 : w3.cell? ⟨w.heap.size, 1, none⟩ = some (.slice none 0 0) := (hc _ _ hlr).trans k1
      have r2 : w3.frozen? ⟨w.heap.size, 0, none⟩ = false := (hf _ _ hlr).trans f0
      have r3 : w3.frozen? ⟨w.heap.size, 1, none⟩ = false := (hf _ _ hlr).trans f1
      go_wp2_with fail
      refine bodyPost_ret (v := .agg #[.bool g3, .slice a' n3 c']) (by simp [results, Tryz.results189, go_sem, r0, r1]) rfl ?_
      have hfr3 : Fresh (w.heap.size + 1) w3 a' c' := hfr.keep hb
      refine ⟨g3, a', n3, c', rfl, ?_, ?_, by go_grown⟩
      · rw [hv0.out] at hnum
        exact (hnum.setFresh hfr3 _ _ (by show w.heap.size < _; omega)).setFresh (hfr3.setNew _ _ (by show w.heap.size < _; omega)) _ _ (by show w.heap.size < _; omega)
      · exact ((hfr3.setNew _ _ (by show w.heap.size < _; omega)).setNew _ _ (by show w.heap.size < _; omega)).mono (by omega)

set_option maxRecDepth 100000 in
set_option maxHeartbeats 1000000 in
theorem rOf_neg (w : World) (A : Nat) (hA : A ≤ 9223372036854775808) (hA0 : 0 < A) : Calls Tryz.prog 189 #[.int .i64 (-(A : Int))] w (RetNum w (-(A : Int))) := by
  obtain ⟨i0, hi, hz0, hz1, hz2⟩ := info_parts info112
  have HB := Below.refl w.heap.size w
  have hneg : -(A : Int) < 0 := by omega
  have hmin : -9223372036854775808 ≤ -(A : Int) := by omega
  go_enter Tryz.func189, Tryz.ntmps189
  go_wp2_with fail
  go_loopw [4, 5] (fun v3 v4 wr => ∃ (l : List Nat) (v : Nat), v3 = .int .u64 v ∧ Hid (val l + 1000000000 ^ l.length * v = A) ∧ l.length ≤ 3 ∧ v ≤ 9223372036854775808 ∧ (∀ x ∈ l, x < 1000000000) ∧ wr.ownsRow (w.heap.size + 1) 112 1 v4 l.length (vals l) ∧ w.heap.size < wr.heap.size ∧ wr.cell? ⟨w.heap.size, 0, none⟩ = some (.bool false) ∧ wr.cell? ⟨w.heap.size, 1, none⟩ = some (.slice none 0 0) ∧ wr.frozen? ⟨w.heap.size, 0, none⟩ = false ∧ wr.frozen? ⟨w.heap.size, 1, none⟩ = false ∧ Below w.heap.size w wr) (fun v3 _ _ => (intOf v3).toNat)
  case atStart => exact ⟨[], A, (by first | rfl | exact congrArg (Value.int .u64) (u64_back A hA hA0)), Lib.hid (by simp [val]), by simp, by omega, fun x hx => (by cases hx), World.ownsRow_nil _ _ _ _, by simp, by simp [go_sem], by simp [go_sem], by simp [go_sem], by simp [go_sem], by go_grown⟩
  case round =>
    obtain ⟨l, v, rfl, hv, hl3, hvb, hlt, hown, hlr, k0, k1, f0, f1, HB⟩ := hrel
    have HBz := HB.size
    have HLT := Lib.hid hlt
    clear hlt
    by_cases hp : 0 < v
    · have hl2 := few_digits hv.out (by omega) hp
      have hst := Lib.hid (step_digits hv.out)
      go_wp2_with (at_builtin; refine wpList_append_own _ rfl _ _ 57 rfl (w.heap.size + 1) 112 i0 (.int .u32 0) 1 4 Tryz.underlying57 hi hz0 hz1 hz2 rfl (by decide) _ _ _ rfl (hown.alloc _) ⟨wr.heap.size, 0, none⟩ 1 1 [.int .u32 ((v : Int) % 1000000000)] rfl rfl (cell_one_new _ _ _) (by simp [Value.oneCell']) (by unfold maxLen; omega) (by omega) (by go_size) ?_; intro v' w2 hown2 hgrow2 _)
      have hb2 : Below (w.heap.size + 1) wr w2 := ((Below.refl (w.heap.size + 1) wr).alloc (by omega) _).grown hgrow2 (by go_size) (fun k hk => (hown.lt k hk).1)
      go_roundw
      case rel =>
        refine ⟨l ++ [v % 1000000000], v / 1000000000, by simp, Lib.hid hst.out, by simp; omega, by omega, fun x hx => ?_, ?_, Nat.lt_of_lt_of_le hlr hb2.size, ?_, ?_, ?_, ?_, HB.trans (hb2.mono (by omega))⟩
        · rcases List.mem_append.1 hx with h | h
          · exact HLT.out x h
          · rw [List.mem_singleton] at h; omega
        · rw [List.length_append, List.length_singleton, vals_append]
          exact hown2
        · rw [hb2.cell (by show w.heap.size < w.heap.size + 1; omega)]; exact k0
        · rw [hb2.cell (by show w.heap.size < w.heap.size + 1; omega)]; exact k1
        · rw [hb2.frozen (by show w.heap.size < w.heap.size + 1; omega)]; exact f0
        · rw [hb2.frozen (by show w.heap.size < w.heap.size + 1; omega)]; exact f1
      case measure => simp [intOf]; omega
    · obtain rfl : v = 0 := by omega
      have hv0 := Lib.hid (show val l = A by have := hv.out; simpa using this)
      obtain ⟨a', c', rfl, hr, hfr⟩ := owns_list hown (by omega) (fun i => lim_small_of_lt (fun x hx => by have := HLT.out x hx; omega) i)
      go_wp2_with fail
      refine (rnum_c _ true a' l.length c' l hr HLT.out).mono ?_
      rintro e w3 ⟨g3, n3, rfl, hn3, hnum, hb⟩
      obtain ⟨hc, hf⟩ := bcell hb; have hz := hb.size
      replace HB : Below w.heap.size w w3 := HB.trans (hb.mono HBz)
      have r0 : w3.cell? ⟨w.heap.size, 0, none⟩ = some (.bool false) := (hc _ _ hlr).trans k0
      have r1 : w3.cell? ⟨w.heap.size, 1, none⟩ = some (.slice none 0 0) := (hc _ _ hlr).trans k1
      have r2 : w3.frozen? ⟨w.heap.size, 0, none⟩ = false := (hf _ _ hlr).trans f0
      have r3 : w3.frozen? ⟨w.heap.size, 1, none⟩ = false := (hf _ _ hlr).trans f1
      go_wp2_with fail
      refine bodyPost_ret (v := .agg #[.bool g3, .slice a' n3 c']) (by simp [results, Tryz.results189, go_sem, r0, r1]) rfl ?_
      have hfr3 : Fresh (w.heap.size + 1) w3 a' c' := hfr.keep hb
      refine ⟨g3, a', n3, c', rfl, ?_, ?_, by go_grown⟩
      · rw [hv0.out] at hnum
        exact (hnum.setFresh hfr3 _ _ (by show w.heap.size < _; omega)).setFresh (hfr3.setNew _ _ (by show w.heap.size < _; omega)) _ _ (by show w.heap.size < _; omega)
      · exact ((hfr3.setNew _ _ (by show w.heap.size < _; omega)).setNew _ _ (by show w.heap.size < _; omega)).mono (by omega)

theorem rOf_c (w : World) (z : Int) (h0 : -9223372036854775808 ≤ z) (h1 : z ≤ 9223372036854775807) : Calls Tryz.prog 189 #[.int .i64 z] w (RetNum w z) := by
  rcases Int.lt_or_le z 0 with h | h
  · obtain ⟨A, rfl⟩ : ∃ A : Nat, z = -(A : Int) := ⟨z.natAbs, by omega⟩
    exact rOf_neg w A (by omega) (by omega)
  · obtain ⟨A, rfl⟩ := Int.eq_ofNat_of_zero_le h
    exact rOf_pos w A (by omega)

set_option maxRecDepth 100000 in
set_option maxHeartbeats 1000000 in
/-- Twin: the number in memory of its own. -/
theorem rTwin_c (w : World) (g : Bool) (a : Option Addr) (n c : Nat) (z : Int) (h : NumAt w g a n c z) :
    Calls Tryz.prog 122 #[.agg #[.bool g, .slice a n c]] w (RetNum w z) := by
  obtain ⟨i0, hi, hz0, hz1, hz2⟩ := info_parts info112
  have HB := Below.refl w.heap.size w
  have hn := h.bound
  have hd := h.rd
  have hlen := hd.len
  have hcap := hd.cap
  have HG := Lib.hid h.neg
  rcases Nat.eq_zero_or_pos n with rfl | hp
  · have HD := Lib.hid (List.eq_nil_of_length_eq_zero hlen)
    clear hlen hd
    go_enter Tryz.func122, Tryz.ntmps122
    go_wp2_with fail
    go_region_held3 (fun W => W.cell? ⟨w.heap.size, 0, none⟩ = some (.bool g) ∧ W.cell? ⟨w.heap.size, 1, none⟩ = some (.slice a 0 c)) (first | ((try dsimp only); (repeat' apply And.intro); all_goals (first | (with_reducible assumption) | (go_keep; done) | (simp [*, go_sem]; done)))) ((refine step_append_nothing rfl _ _ _ rfl (w.heap.size + 1) 112 i0 1 Tryz.underlying57 hi (.slice none 0 0) 0 [] (by rfl) (World.ownsRow_nil _ _ _ _) a c (by rfl) ?_))
    go_wp2_with fail
    refine bodyPost_ret (v := .agg #[.bool g, .slice none 0 0]) (by simp [results, Tryz.results122, go_sem]) rfl ?_
    refine ⟨g, none, 0, 0, rfl, ⟨HG.out, ?_⟩, .nil _ _ _, by go_grown⟩
    rw [HD.out]
    exact ⟨rfl, Nat.le_refl _, by omega, by omega, fun i => by simp [lim], .inl rfl⟩
  · obtain ⟨b, o, rfl, _⟩ := hd.cell.resolve_left (by omega)
    have hcs := Lib.hid (fun (W : World) (hW : Below w.heap.size w W) => rdl_cells (hd.keep hW))
    go_enter Tryz.func122, Tryz.ntmps122
    go_wp2_with fail
    go_region_held3 (fun W => W.cell? ⟨w.heap.size, 0, none⟩ = some (.bool g) ∧ W.cell? ⟨w.heap.size, 1, none⟩ = some (.slice (some ⟨b, o, none⟩) n c)) (first | ((try dsimp only); (repeat' apply And.intro); all_goals (first | (with_reducible assumption) | (go_keep; done) | (simp [*, go_sem]; done)))) ((refine step_append_lies _ (by rfl) _ _ _ (by rfl) (w.heap.size + 1 + 1) 112 i0 (.int .u32 0) 1 4 Tryz.underlying57 hi hz0 hz1 hz2 rfl (by omega) (.slice none 0 0) 0 [] (by rfl) (World.ownsRow_nil _ _ _ _) ⟨b, o, none⟩ n c (vals (dg z.natAbs)) (by rfl) (by rw [vals_length, hlen]; omega) (hcs.out _ (by go_grown)) (vals_one _) hp (by unfold maxLen; omega) (by omega) (by go_size) _ rfl ?_; intro gg cap w1 hown1 hgrow hat hlt; have hb := (Below.refl _ _).grown hgrow (Nat.le_refl _) (fun k h => by cases h); obtain ⟨hc, hf⟩ := bcell hb; have hz := hb.size; (try simp only [World.size_alloc, World.size_drew] at hz); replace HB : Below w.heap.size w w1 := Below.trans (by go_grown) (hb.mono (by go_size)); have s0_0 : w1.cell? ⟨w.heap.size, 0, none⟩ = some (.bool g) := (hc _ _ (by go_size)).trans (by first | assumption | (simp [go_sem]; done)); have s0_1 : w1.cell? ⟨w.heap.size, 1, none⟩ = some (.slice (some ⟨b, o, none⟩) n c) := (hc _ _ (by go_size)).trans (by first | assumption | (simp [go_sem]; done)); have s1_0 : w1.cell? ⟨w.heap.size + 1, 0, none⟩ = some (.bool false) := (hc _ _ (by go_size)).trans (by first | assumption | (simp [go_sem]; done)); have s1_1 : w1.cell? ⟨w.heap.size + 1, 1, none⟩ = some (.slice none 0 0) := (hc _ _ (by go_size)).trans (by first | assumption | (simp [go_sem]; done)); have f1_0 : w1.frozen? ⟨w.heap.size + 1, 0, none⟩ = false := (hf _ _ (by go_size)).trans (by first | assumption | (simp [go_sem]; done)); have f1_1 : w1.frozen? ⟨w.heap.size + 1, 1, none⟩ = false := (hf _ _ (by go_size)).trans (by first | assumption | (simp [go_sem]; done))))
    rw [Nat.zero_add, List.nil_append] at hown1
    obtain ⟨a', c', he, hr, hfr⟩ := owns_list hown1 hn hd.small
    obtain ⟨rfl, _, rfl⟩ := Value.slice.inj he
    go_wp2_with fail
    refine bodyPost_ret (v := .agg #[.bool g, .slice (some ⟨gg, 0, none⟩) n cap]) (by simp [results, Tryz.results122, go_sem, s1_0, s1_1]) rfl ?_
    refine ⟨g, _, n, cap, rfl, ?_, ((hfr.setNew _ _ (by show w.heap.size + 1 < _; omega)).setNew _ _ (by show w.heap.size + 1 < _; omega)).mono (by omega), by go_grown⟩
    exact ((show NumAt w1 g _ n cap z from ⟨HG.out, hr⟩).setFresh hfr _ _ (by show w.heap.size + 1 < _; omega)).setFresh (hfr.setNew _ _ (by show w.heap.size + 1 < _; omega)) _ _ (by show w.heap.size + 1 < _; omega)

set_option maxHeartbeats 1000000 in
theorem order_c (w : World) (a : Option Addr) (n c : Nat) (d : List Nat) (a' : Option Addr) (n' c' : Nat) (d' : List Nat) (hd : RdL w a n c d) (hd' : RdL w a' n' c' d') (hc : Canon d) (hc' : Canon d') :
    Calls Tryz.prog 250 #[.slice a n c, .slice a' n' c'] w (RetCmp w (val d) (val d')) := by
  have hl := hd.len
  have hl' := hd'.len
  have hn := hd.few
  have hn' := hd'.few
  have HB := Below.refl w.heap.size w
  rcases Nat.lt_trichotomy n n' with h | h | h
  · have HR := Lib.hid (show cmpI (val d : Int) (val d') = -1 from cmpI_lt (by have := cmp_len hc hc' (by omega); omega))
    go_enter Tryz.func250, Tryz.ntmps250
    go_wp2_with fail
    go_ret
    exact ⟨by rw [HR.out]; rfl, HB⟩
  · subst h
    go_enter Tryz.func250, Tryz.ntmps250
    go_wp2_with fail
    go_loopw [5] (fun v5 wr => ∃ k : Nat, k ≤ n ∧ v5 = .int .i64 ((k : Int) - 1) ∧ Hid (d.drop k = d'.drop k) ∧ Below w.heap.size w wr) (fun v5 _ => (intOf v5 + 1).toNat)
    case atStart => exact ⟨n, Nat.le_refl _, by first | rfl | (rw [IntWalk.i64_in _ (by omega)]), Lib.hid (by rw [List.drop_of_length_le (by omega), List.drop_of_length_le (by omega)]), HB⟩
    case round =>
      obtain ⟨k, hk, rfl, HD, HBr⟩ := hrel
      match k with
      | 0 =>
        rw [show ((0 : Nat) : Int) - 1 = -1 from rfl]
        have HR := Lib.hid (show cmpI (val d : Int) (val d') = 0 by have := HD.out; rw [List.drop_zero, List.drop_zero] at this; rw [this]; exact cmpI_eq _)
        go_wp2_with fail
        go_ret
        exact ⟨by rw [HR.out]; rfl, HBr⟩
      | j + 1 =>
        rw [show ((j + 1 : Nat) : Int) - 1 = (j : Int) from by omega]
        obtain ⟨b, o, rfl, c1⟩ := (hd.keep HBr).at' (i := j) (by omega)
        obtain ⟨b', o', rfl, c2⟩ := (hd'.keep HBr).at' (i := j) (by omega)
        rcases Int.lt_trichotomy (lim d j) (lim d' j) with h1 | h1 | h1
        · have HR := Lib.hid (show cmpI (val d : Int) (val d') = -1 by rw [← cmpI_top (by omega) (by omega) hc.1 hc'.1 HD.out (by omega)]; exact cmpI_lt h1)
          go_wp2_with fail
          go_quiet (fail)
          go_wp2_with fail
          go_ret
          exact ⟨by rw [HR.out]; rfl, (by first | exact below_drewN _ HBr | exact below_drewN _ (below_drewN _ HBr))⟩
        · have HD2 := Lib.hid (drop_of_eq (by omega) (by omega) HD.out h1)
          have e1 : decide (lim d j < lim d' j) = false := by rw [decide_eq_false_iff_not]; omega
          have e2 : decide (lim d' j < lim d j) = false := by rw [decide_eq_false_iff_not]; omega
          clear h1
          go_wp2_with fail
          go_quiet (fail)
          go_wp2_with fail
          go_quiet (fail)
          go_wp2_with fail
          go_roundw
          case rel => exact ⟨j, by omega, by first | rfl | (rw [IntWalk.i64_in _ (by omega)]), HD2, below_drewN _ HBr⟩
          case measure => (first | (simp [intOf]; omega) | (simp [intOf]; done))
        · have HR := Lib.hid (show cmpI (val d : Int) (val d') = 1 by rw [← cmpI_top (by omega) (by omega) hc.1 hc'.1 HD.out (by omega)]; exact cmpI_gt h1)
          have e1 : decide (lim d j < lim d' j) = false := by rw [decide_eq_false_iff_not]; omega
          go_wp2_with fail
          go_quiet (fail)
          go_wp2_with fail
          go_quiet (fail)
          go_wp2_with fail
          go_ret
          exact ⟨by rw [HR.out]; rfl, (by first | exact below_drewN _ HBr | exact below_drewN _ (below_drewN _ HBr))⟩
  · have HR := Lib.hid (show cmpI (val d : Int) (val d') = 1 from cmpI_gt (by have := cmp_len hc' hc (by omega); omega))
    go_enter Tryz.func250, Tryz.ntmps250
    go_wp2_with fail
    go_ret
    exact ⟨by rw [HR.out]; rfl, HB⟩
end Go.Proofs.YtdamegaedmckbaaGreatDoor
