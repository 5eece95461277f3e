/- Package limbs: Of; slices.Clone; wide; short. No condition. Package limbs: short: an amount by one part. No condition. The document's answer, layer 1: Check, Fit, Sign, num. Decimal digits of a number given by its parts. No program. Decimal digits, written from the lowest on; sums and differences of amounts, part by part. No program. The document's answer, layer 1: more, less. Plain words for the product by hand: a row is added, part by part. No program. -/
import Derived.Test.YtdamegaedmckbaaGreatDoorX4
import Derived.Test.YtdamegaedmckbaaGreatDoorX2
import Derived.PlainAid
import Derived.Lib.ItoaNum
import Derived.Lib.Repeat
import Derived.Deep.AppendLies
set_option linter.unusedSimpArgs false
set_option linter.unusedVariables false
section
namespace Go.Proofs.YtdamegaedmckbaaGreatDoor
open Go.RowKit

/-- A list of parts in memory of its own. -/
def RetList (w : World) (n : Nat) (d : List Nat) (e : Ending) (w' : World) : Prop :=
  ∃ a c, e = .returned (.slice a n c) ∧ RdL w' a n c d ∧ Fresh w.heap.size w' a c ∧ Below w.heap.size w w'
theorem lim_small_of_lt {d : List Nat} (h : ∀ x ∈ d, x < 4294967296) (i : Nat) : 0 ≤ lim d i ∧ lim d i < 4294967296 := by
  by_cases hi : i < d.length
  · have := h _ (List.getElem_mem hi)
    simp only [lim, List.getD, List.getElem?_eq_getElem hi, Option.getD_some]
    omega
  · rw [lim_out (Nat.le_of_not_lt hi)]; omega
theorem owns_list {w : World} {base n : Nat} {v : Value} {d : List Nat} (h : w.ownsRow base 112 1 v n (vals d)) (hn : n ≤ 35184372088832) (hs : ∀ i, 0 ≤ lim d i ∧ lim d i < 4294967296) :
    ∃ a c, v = .slice a n c ∧ RdL w a n c d ∧ Fresh base w a c := by
  have hlen : d.length = n := by have := h.1; rw [vals_length] at this; omega
  rcases h.2 with ⟨rfl, rfl⟩ | ⟨g, cap, cur, rfl, hb, hg, hnc, hcm, hcs, _⟩
  · exact ⟨none, 0, rfl, ⟨hlen, Nat.le_refl _, by omega, by omega, hs, .inl rfl⟩, .inl rfl⟩
  · exact ⟨_, _, rfl, rdl_of_owns h hn hs, .inr ⟨g, cur, rfl, hb, hg, by omega⟩⟩
theorem vals_lim {d : List Nat} {n : Nat} (hl : d.length = n) (j : Nat) (u : Value) (h : (vals d)[j]? = some u) : j < n ∧ u = .int .u32 (lim d j) := by
  have hj : j < d.length := by
    rcases Nat.lt_or_ge j d.length with h1 | h1
    · exact h1
    · rw [List.getElem?_eq_none (by rw [vals_length]; exact h1)] at h; cases h
  rw [vals_get d j hj] at h
  exact ⟨by omega, (Option.some.inj h).symm⟩
theorem rdl_cells {w : World} {b o n c : Nat} {d : List Nat} (h : RdL w (some ⟨b, o, none⟩) n c d) : ∀ j u, (vals d)[j]? = some u → w.cell? ((⟨b, o, none⟩ : Addr).add j) = some u := by
  intro j u hj
  obtain ⟨h1, rfl⟩ := vals_lim h.len j u hj
  have hadd : (⟨b, o, none⟩ : Addr).add j = ⟨b, o + j, none⟩ := by unfold Addr.add; split <;> simp_all
  rw [hadd]
  exact h.at h1
theorem vals_one (d : List Nat) : ∀ u ∈ vals d, u.oneCell' = true := by
  intro u hu
  simp only [vals, List.mem_map] at hu
  obtain ⟨z, _, rfl⟩ := hu
  rfl
set_option maxHeartbeats 400000 in
theorem Clone_c (w : World) (a : Option Addr) (n c : Nat) (d : List Nat) (hd : RdL w a n c d) :
    Calls Tryz.prog 211 #[.slice a n c] w (RetList w n d) := by
  obtain ⟨i0, hi, hz0, hz1, hz2⟩ := info_parts info112
  have hn := hd.few
  have HB := Below.refl w.heap.size w
  match a, hd with
  | none, hd =>
    have h0 : n = 0 := by
      rcases hd.cell with h | ⟨b, o, h, _⟩
      · exact h
      · cases h
    subst h0
    have hdn : d = [] := List.eq_nil_of_length_eq_zero hd.len
    have hq := fun (W : World) => Lib.run_eql_slice_nil (P := Tryz.prog) W 57 112 none 0 c 0 0 Tryz.underlying57
    have HN := Lib.hid hdn
    clear hdn
    go_enter Tryz.func211, Tryz.ntmps211
    go_wp2
    go_ret
    exact ⟨none, 0, rfl, by rw [HN.out]; exact ⟨rfl, Nat.le_refl _, by omega, by omega, fun i => by simp [lim], .inl rfl⟩, .inl rfl, HB⟩
  | some ad, hd =>
    have hsl : n = 0 ∨ ∃ b o, ad = ⟨b, o, none⟩ := by
      rcases hd.cell with h | ⟨b, o, h, _⟩
      · exact .inl h
      · exact .inr ⟨b, o, by cases h; rfl⟩
    have hcs : ∀ (W : World), Below w.heap.size w W → ∀ j u, (vals d)[j]? = some u → W.cell? (ad.add j) = some u := by
      intro W hW j u hj
      rcases hsl with h0 | ⟨b, o, rfl⟩
      · have := (vals_lim hd.len j u hj).1
        omega
      · exact rdl_cells (hd.keep hW) j u hj
    have HCS := Lib.hid hcs
    clear hcs
    have hq := fun (W : World) => Lib.run_eql_slice_nil (P := Tryz.prog) W 57 112 (some ad) n c 0 0 Tryz.underlying57
    go_enter Tryz.func211, Tryz.ntmps211
    have hlit : ∀ W : World, (W.alloc (.cells #[] 112)).ownsRow W.heap.size 112 1 (.slice (some ⟨W.heap.size, 0, none⟩) 0 0) 0 [] := fun W => World.ownsRow_lit (size := 1) W #[] 0 (Nat.le_refl _) (by unfold maxLen; omega) (by simp)
    have HLIT := Lib.hid hlit
    clear hlit
    go_wp2_with (at_builtin; refine wpList_append_own _ rfl _ _ 57 rfl w.heap.size 112 i0 (.int .u32 0) 1 4 Tryz.underlying57 hi hz0 hz1 hz2 rfl (by decide) _ _ _ rfl (HLIT.out w) ad n c (vals d) rfl (by rw [vals_length, hd.len]; omega) (HCS.out _ (by go_grown)) (vals_one d) (by unfold maxLen; omega) (by omega) (by go_size) ?_; intro v' w1 hown' hgrow hnil)
    rw [Nat.zero_add, List.nil_append] at hown'
    obtain ⟨a', c', rfl, hr, hfr⟩ := owns_list hown' hn hd.small
    go_ret
    refine ⟨a', c', rfl, hr, hfr, ?_⟩
    exact ((Below.refl w.heap.size w).alloc (Nat.le_refl _) _).grown hgrow (by go_size) (fun k h => by cases h; exact Nat.le_refl _)
theorem u64_back (A : Nat) (hA : A ≤ 9223372036854775808) (hA0 : 0 < A) : IntKind.u64.wrap (-IntKind.u64.wrap (-(A : Int))) = A := by
  simp only [IntKind.wrap_u64]
  omega
theorem pow3 : (1000000000 : Nat) ^ 3 = 1000000000000000000000000000 := by decide
theorem val_snoc (l : List Nat) (x : Nat) : val (l ++ [x]) = val l + 1000000000 ^ l.length * x := by rw [val_append]; simp [val]
/-- The digits are few: of a number of 64 bits. -/
theorem few_digits {l : List Nat} {v A : Nat} (h : val l + 1000000000 ^ l.length * v = A) (hA : A ≤ 9223372036854775808) (hv : 0 < v) : l.length ≤ 2 := by
  rcases Nat.lt_or_ge 2 l.length with h1 | h1
  · exfalso
    have h2 : 1000000000 ^ 3 ≤ 1000000000 ^ l.length := Nat.pow_le_pow_right (by omega) h1
    rw [pow3] at h2
    have h3 : 1000000000 ^ l.length * 1 ≤ 1000000000 ^ l.length * v := Nat.mul_le_mul_left _ hv
    omega
  · exact h1
theorem step_digits {l : List Nat} {v A : Nat} (h : val l + 1000000000 ^ l.length * v = A) : val (l ++ [v % 1000000000]) + 1000000000 ^ (l ++ [v % 1000000000]).length * (v / 1000000000) = A := by
  rw [val_snoc, List.length_append, List.length_singleton, Nat.pow_succ, Nat.mul_assoc, Nat.add_assoc, ← Nat.mul_add]
  have : v % 1000000000 + 1000000000 * (v / 1000000000) = v := by omega
  rw [this]
  exact h
set_option maxRecDepth 100000 in
set_option maxHeartbeats 1000000 in
theorem Of_pos (w : World) (A : Nat) (hA : A ≤ 9223372036854775807) : Calls Tryz.prog 27 #[.int .i64 (A : Int)] w (RetNum w (A : Int)) := by
  obtain ⟨i0, hi, hz0, hz1, hz2⟩ := info_parts info112
  have HB := Below.refl w.heap.size w
  go_enter Tryz.func27, Tryz.ntmps27
  go_wp2_with fail
  go_loopw [3, 4] (fun v3 v4 wr => ∃ (l : List Nat) (v : Nat), v3 = .int .u64 v ∧ Hid (val l + 1000000000 ^ l.length * v = A) ∧ l.length ≤ 3 ∧ v ≤ 9223372036854775808 ∧ (∀ x ∈ l, x < 1000000000) ∧ wr.ownsRow (w.heap.size + 1) 112 1 v4 l.length (vals l) ∧ w.heap.size < wr.heap.size ∧ wr.cell? ⟨w.heap.size, 0, none⟩ = some (.bool false) ∧ wr.cell? ⟨w.heap.size, 1, none⟩ = some (.slice none 0 0) ∧ wr.frozen? ⟨w.heap.size, 0, none⟩ = false ∧ wr.frozen? ⟨w.heap.size, 1, none⟩ = false ∧ Below w.heap.size w wr) (fun v3 _ _ => (intOf v3).toNat)
  case atStart => exact ⟨[], A, (by first | rfl | exact congrArg (Value.int .u64) (u64_back A hA hA0)), Lib.hid (by simp [val]), by simp, by omega, fun x hx => (by cases hx), World.ownsRow_nil _ _ _ _, by simp, by simp [go_sem], by simp [go_sem], by simp [go_sem], by simp [go_sem], by go_grown⟩
  case round =>
    obtain ⟨l, v, rfl, hv, hl3, hvb, hlt, hown, hlr, k0, k1, f0, f1, HB⟩ := hrel
    have HBz := HB.size
    have HLT := Lib.hid hlt
    clear hlt
    by_cases hp : 0 < v
    · have hl2 := few_digits hv.out (by omega) hp
      have hst := Lib.hid (step_digits hv.out)
      go_wp2_with (at_builtin; refine wpList_append_own _ rfl _ _ 57 rfl (w.heap.size + 1) 112 i0 (.int .u32 0) 1 4 Tryz.underlying57 hi hz0 hz1 hz2 rfl (by decide) _ _ _ rfl (hown.alloc _) ⟨wr.heap.size, 0, none⟩ 1 1 [.int .u32 ((v : Int) % 1000000000)] rfl rfl (cell_one_new _ _ _) (by simp [Value.oneCell']) (by unfold maxLen; omega) (by omega) (by go_size) ?_; intro v' w2 hown2 hgrow2 _)
      have hb2 : Below (w.heap.size + 1) wr w2 := ((Below.refl (w.heap.size + 1) wr).alloc (by omega) _).grown hgrow2 (by go_size) (fun k hk => (hown.lt k hk).1)
      go_roundw
      case rel =>
        refine ⟨l ++ [v % 1000000000], v / 1000000000, by simp, Lib.hid hst.out, by simp; omega, by omega, fun x hx => ?_, ?_, Nat.lt_of_lt_of_le hlr hb2.size, ?_, ?_, ?_, ?_, HB.trans (hb2.mono (by omega))⟩
        · rcases List.mem_append.1 hx with h | h
          · exact HLT.out x h
          · rw [List.mem_singleton] at h; omega
        · rw [List.length_append, List.length_singleton, vals_append]
          exact hown2
        · rw [hb2.cell (by show w.heap.size < w.heap.size + 1; omega)]; exact k0
        · rw [hb2.cell (by show w.heap.size < w.heap.size + 1; omega)]; exact k1
        · rw [hb2.frozen (by show w.heap.size < w.heap.size + 1; omega)]; exact f0
        · rw [hb2.frozen (by show w.heap.size < w.heap.size + 1; omega)]; exact f1
      case measure => simp [intOf]; omega
    · obtain rfl : v = 0 := by omega
      have hv0 := Lib.hid (show val l = A by have := hv.out; simpa using this)
      obtain ⟨a', c', rfl, hr, hfr⟩ := owns_list hown (by omega) (fun i => lim_small_of_lt (fun x hx => by have := HLT.out x hx; omega) i)
      go_wp2_with fail
      refine (cut_c _ false a' l.length c' l hr HLT.out).mono ?_
      rintro e w3 ⟨g3, n3, rfl, hn3, hnum, hb⟩
      obtain ⟨hc, hf⟩ := bcell hb; have hz := hb.size
      replace HB : Below w.heap.size w w3 := HB.trans (hb.mono HBz)
      have r0 : w3.cell? ⟨w.heap.size, 0, none⟩ = some (.bool false) := (hc _ _ hlr).trans k0
      have r1 : w3.cell? ⟨w.heap.size, 1, none⟩ = some (.slice none 0 0) := (hc _ _ hlr).trans k1
      have r2 : w3.frozen? ⟨w.heap.size, 0, none⟩ = false := (hf _ _ hlr).trans f0
      have r3 : w3.frozen? ⟨w.heap.size, 1, none⟩ = false := (hf _ _ hlr).trans f1
      go_wp2_with fail
      refine bodyPost_ret (v := .agg #[.bool g3, .slice a' n3 n3]) (by simp [results, Tryz.results27, go_sem, r0, r1]) rfl ?_
      have hfr3 : Fresh (w.heap.size + 1) w3 a' n3 := (hfr.keep hb).less hn3
      refine ⟨g3, a', n3, n3, rfl, ?_, ?_, by go_grown⟩
      · rw [hv0.out] at hnum
        exact (hnum.setFresh hfr3 _ _ (by show w.heap.size < _; omega)).setFresh (hfr3.setNew _ _ (by show w.heap.size < _; omega)) _ _ (by show w.heap.size < _; omega)
      · exact ((hfr3.setNew _ _ (by show w.heap.size < _; omega)).setNew _ _ (by show w.heap.size < _; omega)).mono (by omega)
set_option maxRecDepth 100000 in
set_option maxHeartbeats 1000000 in
theorem Of_neg (w : World) (A : Nat) (hA : A ≤ 9223372036854775808) (hA0 : 0 < A) : Calls Tryz.prog 27 #[.int .i64 (-(A : Int))] w (RetNum w (-(A : Int))) := by
  obtain ⟨i0, hi, hz0, hz1, hz2⟩ := info_parts info112
  have HB := Below.refl w.heap.size w
  have hneg : -(A : Int) < 0 := by omega
  have hmin : -9223372036854775808 ≤ -(A : Int) := by omega
  go_enter Tryz.func27, Tryz.ntmps27
  go_wp2_with fail
  go_loopw [3, 4] (fun v3 v4 wr => ∃ (l : List Nat) (v : Nat), v3 = .int .u64 v ∧ Hid (val l + 1000000000 ^ l.length * v = A) ∧ l.length ≤ 3 ∧ v ≤ 9223372036854775808 ∧ (∀ x ∈ l, x < 1000000000) ∧ wr.ownsRow (w.heap.size + 1) 112 1 v4 l.length (vals l) ∧ w.heap.size < wr.heap.size ∧ wr.cell? ⟨w.heap.size, 0, none⟩ = some (.bool false) ∧ wr.cell? ⟨w.heap.size, 1, none⟩ = some (.slice none 0 0) ∧ wr.frozen? ⟨w.heap.size, 0, none⟩ = false ∧ wr.frozen? ⟨w.heap.size, 1, none⟩ = false ∧ Below w.heap.size w wr) (fun v3 _ _ => (intOf v3).toNat)
  case atStart => exact ⟨[], A, (by first | rfl | exact congrArg (Value.int .u64) (u64_back A hA hA0)), Lib.hid (by simp [val]), by simp, by omega, fun x hx => (by cases hx), World.ownsRow_nil _ _ _ _, by simp, by simp [go_sem], by simp [go_sem], by simp [go_sem], by simp [go_sem], by go_grown⟩
  case round =>
    obtain ⟨l, v, rfl, hv, hl3, hvb, hlt, hown, hlr, k0, k1, f0, f1, HB⟩ := hrel
    have HBz := HB.size
    have HLT := Lib.hid hlt
    clear hlt
    by_cases hp : 0 < v
    · have hl2 := few_digits hv.out (by omega) hp
      have hst := Lib.hid (step_digits hv.out)
      go_wp2_with (at_builtin; refine wpList_append_own _ rfl _ _ 57 rfl (w.heap.size + 1) 112 i0 (.int .u32 0) 1 4 Tryz.underlying57 hi hz0 hz1 hz2 rfl (by decide) _ _ _ rfl (hown.alloc _) ⟨wr.heap.size, 0, none⟩ 1 1 [.int .u32 ((v : Int) % 1000000000)] rfl rfl (cell_one_new _ _ _) (by simp [Value.oneCell']) (by unfold maxLen; omega) (by omega) (by go_size) ?_; intro v' w2 hown2 hgrow2 _)
      have hb2 : Below (w.heap.size + 1) wr w2 := ((Below.refl (w.heap.size + 1) wr).alloc (by omega) _).grown hgrow2 (by go_size) (fun k hk => (hown.lt k hk).1)
      go_roundw
      case rel =>
        refine ⟨l ++ [v % 1000000000], v / 1000000000, by simp, Lib.hid hst.out, by simp; omega, by omega, fun x hx => ?_, ?_, Nat.lt_of_lt_of_le hlr hb2.size, ?_, ?_, ?_, ?_, HB.trans (hb2.mono (by omega))⟩
        · rcases List.mem_append.1 hx with h | h
          · exact HLT.out x h
          · rw [List.mem_singleton] at h; omega
        · rw [List.length_append, List.length_singleton, vals_append]
          exact hown2
        · rw [hb2.cell (by show w.heap.size < w.heap.size + 1; omega)]; exact k0
        · rw [hb2.cell (by show w.heap.size < w.heap.size + 1; omega)]; exact k1
        · rw [hb2.frozen (by show w.heap.size < w.heap.size + 1; omega)]; exact f0
        · rw [hb2.frozen (by show w.heap.size < w.heap.size + 1; omega)]; exact f1
      case measure => simp [intOf]; omega
    · obtain rfl : v = 0 := by omega
      have hv0 := Lib.hid (show val l = A by have := hv.out; simpa using this)
      obtain ⟨a', c', rfl, hr, hfr⟩ := owns_list hown (by omega) (fun i => lim_small_of_lt (fun x hx => by have := HLT.out x hx; omega) i)
      go_wp2_with fail
      refine (cut_c _ true a' l.length c' l hr HLT.out).mono ?_
      rintro e w3 ⟨g3, n3, rfl, hn3, hnum, hb⟩
      obtain ⟨hc, hf⟩ := bcell hb; have hz := hb.size
      replace HB : Below w.heap.size w w3 := HB.trans (hb.mono HBz)
      have r0 : w3.cell? ⟨w.heap.size, 0, none⟩ = some (.bool false) := (hc _ _ hlr).trans k0
      have r1 : w3.cell? ⟨w.heap.size, 1, none⟩ = some (.slice none 0 0) := (hc _ _ hlr).trans k1
      have r2 : w3.frozen? ⟨w.heap.size, 0, none⟩ = false := (hf _ _ hlr).trans f0
      have r3 : w3.frozen? ⟨w.heap.size, 1, none⟩ = false := (hf _ _ hlr).trans f1
      go_wp2_with fail
      refine bodyPost_ret (v := .agg #[.bool g3, .slice a' n3 n3]) (by simp [results, Tryz.results27, go_sem, r0, r1]) rfl ?_
      have hfr3 : Fresh (w.heap.size + 1) w3 a' n3 := (hfr.keep hb).less hn3
      refine ⟨g3, a', n3, n3, rfl, ?_, ?_, by go_grown⟩
      · rw [hv0.out] at hnum
        exact (hnum.setFresh hfr3 _ _ (by show w.heap.size < _; omega)).setFresh (hfr3.setNew _ _ (by show w.heap.size < _; omega)) _ _ (by show w.heap.size < _; omega)
      · exact ((hfr3.setNew _ _ (by show w.heap.size < _; omega)).setNew _ _ (by show w.heap.size < _; omega)).mono (by omega)
theorem Of_c (w : World) (z : Int) (h0 : -9223372036854775808 ≤ z) (h1 : z ≤ 9223372036854775807) : Calls Tryz.prog 27 #[.int .i64 z] w (RetNum w z) := by
  rcases Int.lt_or_le z 0 with h | h
  · have := Of_neg w z.natAbs (by omega) (by omega)
    rwa [show -(z.natAbs : Int) = z by omega] at this
  · have := Of_pos w z.natAbs (by omega)
    rwa [show (z.natAbs : Int) = z by omega] at this
end Go.Proofs.YtdamegaedmckbaaGreatDoor
end
section
namespace Go.Proofs.YtdamegaedmckbaaGreatDoor
open Go.RowKit

theorem drop_val (d : List Nat) (j : Nat) (h : j < d.length) : val (d.drop j) = d.getD j 0 + 1000000000 * val (d.drop (j + 1)) := by
  rw [List.drop_eq_getElem_cons h, val]
  simp [List.getD, List.getElem?_eq_getElem h]
/-- One step of the division by one part. -/
theorem short_step (a H by' : Nat) (hb : 0 < by') :
    (a + 1000000000 * H) / by' = (H % by' * 1000000000 + a) / by' + 1000000000 * (H / by') ∧ (a + 1000000000 * H) % by' = (H % by' * 1000000000 + a) % by' := by
  have e : a + 1000000000 * H = (H % by' * 1000000000 + a) + by' * (1000000000 * (H / by')) := by
    have h1 := Nat.mod_add_div H by'
    generalize H % by' = r at *
    generalize H / by' = q at *
    subst h1
    rw [Nat.mul_add, Nat.mul_left_comm by' 1000000000 q]
    omega
  constructor
  · rw [e, Nat.add_mul_div_left _ _ hb]
  · rw [e, Nat.add_mul_mod_self_left]
theorem short_digit (a r by' : Nat) (hb : 0 < by') (hr : r < by') (ha : a < 1000000000) : (r * 1000000000 + a) / by' < 1000000000 := by
  rw [Nat.div_lt_iff_lt_mul hb]
  have : r * 1000000000 + 1000000000 ≤ by' * 1000000000 := by
    have := Nat.mul_le_mul_right 1000000000 (show r + 1 ≤ by' from hr)
    omega
  rw [Nat.mul_comm]
  omega
def RetShort (w : World) (n by' : Nat) (d : List Nat) (e : Ending) (w' : World) : Prop :=
  ∃ a q, e = .returned (.tuple #[.slice a n n, .int .u32 ((val d % by' : Nat) : Int)]) ∧ RdL w' a n n q ∧ val q = val d / by' ∧ (∀ x ∈ q, x < 1000000000) ∧ Fresh w.heap.size w' a n ∧ Below w.heap.size w w'
set_option maxRecDepth 100000 in
set_option maxHeartbeats 1000000 in
theorem short_c (w : World) (a : Option Addr) (n c : Nat) (d : List Nat) (by' : Nat) (hd : RdL w a n c d) (hlt : ∀ x ∈ d, x < 1000000000) (hb0 : 0 < by') (hb1 : by' < 4294967296) :
    Calls Tryz.prog 258 #[.slice a n c, .int .u32 by'] w (RetShort w n by' d) := by
  obtain ⟨i0, hi, hz0, hz1, hz2⟩ := info_parts info112
  have hlen := hd.len
  have hn := hd.few
  have HLT := Lib.hid hlt
  clear hlt
  go_enter Tryz.func258, Tryz.ntmps258
  go_wp2_with (refine wpList_make_full _ rfl _ _ 57 rfl w.heap.size 112 i0 (.int .u32 0) 1 Tryz.underlying57 hi hz0 hz1 .i64 .i64 _ _ n rfl rfl rfl rfl (by rw [hz2]; omega) (by unfold maxLen; omega) (Nat.le_refl _) ?_; intro w1 hown1 hgrow1)
  have HB : Below w.heap.size w w1 := (Below.refl _ _).grown hgrow1 (Nat.le_refl _) (fun k h => by cases h)
  rw [Nat.mul_one, show Value.cells (.int .u32 0) = #[.int .u32 0] from rfl, toList_madeCells_one] at hown1
  clear hgrow1
  go_loopw [6, 7] (fun v6 v7 wr => ∃ (k r : Nat) (q : List Nat), k ≤ n ∧ v7 = .int .i64 ((k : Int) - 1) ∧ v6 = .int .u64 r ∧ r < by' ∧ Hid (r = val (d.drop k) % by') ∧ Hid (val q = val (d.drop k) / by') ∧ Hid (q.length = n - k) ∧ Hid (∀ x ∈ q, x < 1000000000) ∧
      wr.ownsRow w.heap.size 112 1 (.slice (some ⟨w.heap.size, 0, none⟩) n n) n (List.replicate k (.int .u32 0) ++ vals q) ∧ Below w.heap.size w wr) (fun _ v7 _ => (intOf v7 + 1).toNat)
  case atStart => exact ⟨n, 0, [], Nat.le_refl _, rfl, rfl, hb0, Lib.hid (by rw [List.drop_of_length_le (by omega)]; simp [val]), Lib.hid (by rw [List.drop_of_length_le (by omega)]; simp [val]), Lib.hid (by simp), Lib.hid (fun x hx => (by cases hx)), by simpa [vals] using hown1, HB⟩
  case round =>
    obtain ⟨k, r, q, hk, rfl, rfl, hrb, hr, hq, hql, hqlt, hown, HB⟩ := hrel
    have HBz := HB.size
    have hlt1 := (hown.lt w.heap.size rfl).2
    clear hown1
    match k with
    | 0 =>
      rw [show ((0 : Nat) : Int) - 1 = -1 from rfl]
      rw [List.replicate_zero, List.nil_append] at hown
      go_wp2_with fail
      go_ret2
      refine ⟨_, q, ?_, rdl_of_owns hown hn (fun i => lim_small_of_lt (fun x hx => by have := hqlt.out x hx; omega) i), ?_, hqlt.out, .of_owns hown, HB⟩
      · have := hr.out
        rw [List.drop_zero] at this
        rw [← this]; rfl
      · have := hq.out
        rwa [List.drop_zero] at this
    | j + 1 =>
      rw [show ((j + 1 : Nat) : Int) - 1 = (j : Int) from by omega]
      obtain ⟨b, o, rfl, c1⟩ := (hd.keep HB).at' (i := j) (by omega)
      have hs := hd.small j
      have ha : d.getD j 0 < 1000000000 := by
        rw [List.getD, List.getElem?_eq_getElem (by omega)]
        exact HLT.out _ (List.getElem_mem (by omega))
      have hlim : lim d j = ((d.getD j 0 : Nat) : Int) := rfl
      have hst := short_step (d.getD j 0) (val (d.drop (j + 1))) by' hb0
      rw [← drop_val d j (by omega), ← hr.out, ← hq.out] at hst
      have HST := Lib.hid hst
      have hdg := short_digit (d.getD j 0) r by' hb0 hrb ha
      have hmod := Nat.mod_lt (r * 1000000000 + d.getD j 0) hb0
      have t1 : ((r : Int) * 1000000000 + lim d j) / (by' : Int) = (((r * 1000000000 + d.getD j 0) / by' : Nat) : Int) := by rw [hlim]; simp
      have t2 : ((r : Int) * 1000000000 + lim d j) % (by' : Int) = (((r * 1000000000 + d.getD j 0) % by' : Nat) : Int) := by rw [hlim]; simp
      have q1 : 0 ≤ ((r : Int) * 1000000000 + lim d j) / (by' : Int) := by rw [t1]; revert hdg; generalize (r * 1000000000 + d.getD j 0) / by' = X; intro h; omega
      have q2 : ((r : Int) * 1000000000 + lim d j) / (by' : Int) ≤ 999999999 := by rw [t1]; revert hdg; generalize (r * 1000000000 + d.getD j 0) / by' = X; intro h; omega
      have q3 : 0 ≤ ((r : Int) * 1000000000 + lim d j) % (by' : Int) := by rw [t2]; revert hmod; generalize (r * 1000000000 + d.getD j 0) % by' = X; intro h; omega
      have q4 : ((r : Int) * 1000000000 + lim d j) % (by' : Int) < by' := by rw [t2]; revert hmod; generalize (r * 1000000000 + d.getD j 0) % by' = X; intro h; omega
      have T1 := Lib.hid t1
      have T2 := Lib.hid t2
      have HM := Lib.hid hmod
      have HDG := Lib.hid hdg
      have hcell := hown.cellAt j (by omega)
      rw [List.getElem?_append_left (by simp), List.getElem?_replicate, if_pos (by omega)] at hcell
      have hfr := hown.frozenAt j
      have hb1' : (by' : Int) < 4294967296 := by omega
      have hb0' : (1 : Int) ≤ by' := by omega
      clear t1 t2 hst hlim ha hmod hdg
      go_wp2_with fail
      go_roundw
      case rel =>
        refine ⟨j, (r * 1000000000 + d.getD j 0) % by', (r * 1000000000 + d.getD j 0) / by' :: q, by omega, rfl, by rw [T2.out], HM.out, Lib.hid HST.out.2.symm, Lib.hid ?_, Lib.hid ?_, Lib.hid ?_, ?_, by go_grown⟩
        · rw [val]; exact HST.out.1.symm
        · have := hql.out; simp; omega
        · intro x hx
          rcases List.mem_cons.1 hx with rfl | hx
          · exact HDG.out
          · exact hqlt.out x hx
        · have := (hown.stored j (.int .u32 (((r : Int) * 1000000000 + lim d j) / (by' : Int)))).1
          rw [List.set_append_left _ _ (by simp), List.replicate_succ', List.set_append_right _ _ (by simp)] at this
          simp only [List.length_replicate, Nat.sub_self, List.set_cons_zero, List.append_assoc, List.singleton_append] at this
          rw [T1.out] at this ⊢
          exact this
      case measure => (first | (simp [intOf]; omega) | (simp [intOf]; done))
end Go.Proofs.YtdamegaedmckbaaGreatDoor
end
section
namespace Go.Proofs.YtdamegaedmckbaaGreatDoor
open Go.RowKit
theorem lim_of_lt {d : List Nat} (h : ∀ x ∈ d, x < 1000000000) (i : Nat) : lim d i < 1000000000 := by
  by_cases hi : i < d.length
  · have := h _ (List.getElem_mem hi)
    simp only [lim, List.getD, List.getElem?_eq_getElem hi, Option.getD_some]
    omega
  · rw [lim_out (by omega)]; omega
end Go.Proofs.YtdamegaedmckbaaGreatDoor
end
section
namespace Go.Proofs.YtdamegaedmckbaaGreatDoor

/-- The last k digits. -/
def padD : Nat → Nat → List UInt8
  | 0, _ => []
  | k + 1, x => padD k (x / 10) ++ [UInt8.ofNat (48 + x % 10)]
theorem decDigits_pad (k : Nat) : ∀ hi x : Nat, 0 < hi → x < 10 ^ k → Lib.decDigits (hi * 10 ^ k + x) = Lib.decDigits hi ++ padD k x := by
  induction k with
  | zero =>
    intro hi x _ hx
    have : x = 0 := by simpa using hx
    simp [this, padD]
  | succ k ih =>
    intro hi x hh hx
    have h1 : 10 ^ (k + 1) = 10 ^ k * 10 := Nat.pow_succ ..
    have h2 : hi * 10 ^ (k + 1) = hi * 10 ^ k * 10 := by rw [h1, Nat.mul_assoc]
    have h3 : 0 < hi * 10 ^ k := Nat.mul_pos hh (Nat.pow_pos (by omega))
    have h4 : ¬ hi * 10 ^ (k + 1) + x < 10 := by omega
    rw [Lib.decDigits, dif_neg h4]
    have h5 : (hi * 10 ^ (k + 1) + x) / 10 = hi * 10 ^ k + x / 10 := by omega
    have h6 : (hi * 10 ^ (k + 1) + x) % 10 = x % 10 := by omega
    rw [h5, h6, ih hi (x / 10) hh (by omega), padD, List.append_assoc]
theorem padD_eq (k : Nat) : ∀ x : Nat, x < 10 ^ (k + 1) → padD (k + 1) x = List.replicate (k + 1 - (Lib.decDigits x).length) 48 ++ Lib.decDigits x ∧ (Lib.decDigits x).length ≤ k + 1 := by
  induction k with
  | zero =>
    intro x hx
    have hx : x < 10 := by simpa using hx
    rw [Lib.decDigits, dif_pos hx]
    simp [padD, Nat.mod_eq_of_lt hx]
  | succ k ih =>
    intro x hx
    have h1 : 10 ^ (k + 1 + 1) = 10 ^ (k + 1) * 10 := Nat.pow_succ ..
    obtain ⟨h2, h3⟩ := ih (x / 10) (by omega)
    rw [padD, h2]
    by_cases h : x < 10
    · rw [Lib.decDigits, dif_pos (by omega : x / 10 < 10), Lib.decDigits, dif_pos h]
      have h0 : x / 10 = 0 := by omega
      rw [h0, Nat.mod_eq_of_lt h]
      refine ⟨?_, by simp⟩
      simp only [List.length_cons, List.length_nil, Nat.zero_add, Nat.add_sub_cancel]
      rw [List.replicate_succ']
      rfl
    · have e : Lib.decDigits x = Lib.decDigits (x / 10) ++ [UInt8.ofNat (48 + x % 10)] := by rw [Lib.decDigits, dif_neg h]
      rw [e]
      simp only [List.length_append, List.length_cons, List.length_nil, Nat.zero_add]
      refine ⟨?_, by omega⟩
      rw [List.append_assoc, show k + 1 + 1 - ((Lib.decDigits (x / 10)).length + 1) = k + 1 - (Lib.decDigits (x / 10)).length by omega]
theorem repeatL_zero (c : Nat) : Lib.repeatL [48] c = List.replicate c 48 := by
  induction c with
  | zero => rfl
  | succ c ih => rw [Lib.repeatL, ih]; rfl
/-- The text of some parts: none at no part. -/
def tx (l : List Nat) : List UInt8 := if l = [] then [] else Lib.decDigits (val l)
theorem tx_nil : tx [] = [] := rfl
theorem tx_one (x : Nat) : tx [x] = Lib.decDigits x := by
  rw [tx, if_neg (by simp), val, val, Nat.mul_zero, Nat.add_zero]
theorem dec_len {x : Nat} (hx : x < 1000000000) : (Lib.decDigits x).length ≤ 9 := (padD_eq 8 x hx).2
theorem tx_cons (x : Nat) (l : List Nat) (hx : x < 1000000000) (hl : l ≠ []) (hv : 0 < val l) : tx (x :: l) = tx l ++ (Lib.repeatL [48] (9 - (Lib.decDigits x).length) ++ Lib.decDigits x) := by
  rw [tx, if_neg (by simp), tx, if_neg hl, val, repeatL_zero, ← (padD_eq 8 x hx).1, ← decDigits_pad 9 (val l) x hv hx]
  congr 1
  rw [Nat.add_comm, Nat.mul_comm]
theorem tx_dg (n : Nat) (h : 0 < n) : tx (dg n) = Lib.decDigits n := by
  have h1 := val_dg n
  rw [tx, if_neg, h1]
  intro e
  rw [e, val] at h1
  omega
theorem canon_drop {d : List Nat} (h : Canon d) : ∀ j, Canon (d.drop j) := by
  intro j
  induction j generalizing d with
  | zero => simpa using h
  | succ j ih =>
    cases d with
    | nil => simpa using h
    | cons x d => exact ih h.tail
theorem drop_lim {d : List Nat} {j : Nat} (h : j < d.length) : d.drop j = (lim d j).toNat :: d.drop (j + 1) := by
  rw [List.drop_eq_getElem_cons h]
  congr 1
  simp [lim, List.getD, h]
end Go.Proofs.YtdamegaedmckbaaGreatDoor
end
section
namespace Go.Proofs.YtdamegaedmckbaaGreatDoor
theorem val_take_step (d : List Nat) (i : Nat) : val (d.take (i + 1)) = val (d.take i) + 1000000000 ^ i * d.getD i 0 := by
  by_cases hi : i < d.length
  · exact val_take_succ d i hi
  · rw [List.take_of_length_le (by omega), List.take_of_length_le (by omega)]
    simp [List.getD, List.getElem?_eq_none (Nat.le_of_not_lt hi)]
end Go.Proofs.YtdamegaedmckbaaGreatDoor
end
section
namespace Go.Proofs.YtdamegaedmckbaaGreatDoor
open Go.RowKit
theorem getD_out {d : List Nat} {i : Nat} (h : d.length ≤ i) : d.getD i 0 = 0 := by simp [List.getD, List.getElem?_eq_none h]
theorem getD_lt {d : List Nat} (h : ∀ x ∈ d, x < 1000000000) (i : Nat) : d.getD i 0 < 1000000000 := by
  by_cases hi : i < d.length
  · simp only [List.getD, List.getElem?_eq_getElem hi, Option.getD_some]; exact h _ (List.getElem_mem hi)
  · rw [getD_out (by omega)]; omega
end Go.Proofs.YtdamegaedmckbaaGreatDoor
end
section
namespace Go.Proofs.YtdamegaedmckbaaGreatDoor

theorem set_val : ∀ (l : List Nat) (j y : Nat), j < l.length → val (l.set j y) + 1000000000 ^ j * l.getD j 0 = val l + 1000000000 ^ j * y
  | [], j, y, h => by simp at h
  | x :: l, 0, y, _ => by simp [val]; omega
  | x :: l, j + 1, y, h => by
    have ih := set_val l j y (by simpa using h)
    simp only [List.set_cons_succ, val, List.getD_cons_succ, Nat.pow_succ]
    have e1 : 1000000000 ^ j * 1000000000 * l.getD j 0 = 1000000000 * (1000000000 ^ j * l.getD j 0) := by rw [Nat.mul_comm (1000000000 ^ j) 1000000000, Nat.mul_assoc]
    have e2 : 1000000000 ^ j * 1000000000 * y = 1000000000 * (1000000000 ^ j * y) := by rw [Nat.mul_comm (1000000000 ^ j) 1000000000, Nat.mul_assoc]
    rw [e1, e2]
    omega
/-- One part of a row: what stands there, and what is carried on. -/
theorem mul_step {l : List Nat} {j on V W t x y : Nat} (hj : j < l.length) (h : val l + 1000000000 ^ j * on = V + W) (ht : t = on + x * y + l.getD j 0) :
    val (l.set j (t % 1000000000)) + 1000000000 ^ (j + 1) * (t / 1000000000) = V + (W + 1000000000 ^ j * (x * y)) := by
  have h1 := set_val l j (t % 1000000000) hj
  have h2 := Nat.mod_add_div t 1000000000
  have h3 : 1000000000 ^ j * t = 1000000000 ^ j * (t % 1000000000) + 1000000000 ^ (j + 1) * (t / 1000000000) := by
    rw [Nat.pow_succ, Nat.mul_assoc, ← Nat.mul_add, h2]
  have h4 : 1000000000 ^ j * t = 1000000000 ^ j * on + 1000000000 ^ j * (x * y) + 1000000000 ^ j * l.getD j 0 := by rw [ht, Nat.mul_add, Nat.mul_add]
  omega
/-- The row's end: what is carried on comes to stand where nothing stood. -/
theorem mul_last {l : List Nat} {j on V W : Nat} (hj : j < l.length) (h : val l + 1000000000 ^ j * on = V + W) (hz : l.getD j 0 = 0) :
    val (l.set j on) = V + W := by
  have h1 := set_val l j on hj
  rw [hz] at h1
  omega
theorem mul_small {x y u on : Nat} (hx : x < 1000000000) (hy : y < 1000000000) (hu : u < 1000000000) (ho : on < 1000000000) : on + x * y + u < 1000000000 * 1000000000 := by
  have h := Nat.mul_le_mul (show x ≤ 999999999 by omega) (show y ≤ 999999999 by omega)
  omega
/-- The list after a row and after a part of the next one. -/
structure MulSt (da db : List Nat) (i k on : Nat) (l : List Nat) : Prop where
  len : l.length = da.length + db.length
  lt : ∀ x ∈ l, x < 1000000000
  zero : ∀ j, i + db.length ≤ j → l.getD j 0 = 0
  few : on < 1000000000
  eq : val l + 1000000000 ^ (i + k) * on = val (da.take i) * val db + da.getD i 0 * (1000000000 ^ i * val (db.take k))
theorem replicate_val (m : Nat) : val (List.replicate m 0) = 0 := val_zeros _ (fun x hx => (List.mem_replicate.1 hx).2)
theorem MulSt.start (da db : List Nat) : MulSt da db 0 0 0 (List.replicate (da.length + db.length) 0) where
  len := by simp
  lt _ hx := by rw [(List.mem_replicate.1 hx).2]; omega
  zero j _ := by simp only [List.getD, List.getElem?_replicate]; split <;> rfl
  few := by omega
  eq := by rw [replicate_val, List.take_zero, List.take_zero, show val [] = 0 from rfl, Nat.mul_zero, Nat.mul_zero, Nat.zero_mul]
theorem getD_set_other {l : List Nat} {j j' y : Nat} (h : j ≠ j') : (l.set j y).getD j' 0 = l.getD j' 0 := by
  simp only [List.getD, List.getElem?_set_ne h]
theorem mem_set_lt {l : List Nat} {j y : Nat} (h : ∀ x ∈ l, x < 1000000000) (hy : y < 1000000000) : ∀ x ∈ l.set j y, x < 1000000000 := by
  intro x hx
  rcases List.mem_or_eq_of_mem_set hx with hx | rfl
  · exact h x hx
  · exact hy
theorem MulSt.step {da db : List Nat} {i k on : Nat} {l : List Nat} (h : MulSt da db i k on l) (ha : ∀ x ∈ da, x < 1000000000) (hb : ∀ x ∈ db, x < 1000000000) (hi : i < da.length) (hk : k < db.length) {t : Nat} (ht : t = on + da.getD i 0 * db.getD k 0 + l.getD (i + k) 0) :
    MulSt da db i (k + 1) (t / 1000000000) (l.set (i + k) (t % 1000000000)) where
  len := by rw [List.length_set]; exact h.len
  lt := mem_set_lt h.lt (by omega)
  zero j hj := by rw [getD_set_other (by omega)]; exact h.zero j hj
  few := by
    have := mul_small (getD_lt ha i) (getD_lt hb k) (getD_lt h.lt (i + k)) h.few
    rw [← ht] at this
    exact Nat.div_lt_of_lt_mul this
  eq := by
    have hlen := h.len
    have := mul_step (j := i + k) (by omega) h.eq ht
    rw [val_take_step db k, show i + (k + 1) = i + k + 1 from rfl, this, Nat.mul_add, Nat.mul_add, Nat.pow_add]
    have e : 1000000000 ^ i * 1000000000 ^ k * (da.getD i 0 * db.getD k 0) = da.getD i 0 * (1000000000 ^ i * (1000000000 ^ k * db.getD k 0)) := by
      rw [Nat.mul_left_comm, Nat.mul_assoc]
    rw [e]
theorem MulSt.next {da db : List Nat} {i on : Nat} {l : List Nat} (h : MulSt da db i db.length on l) (hi : i < da.length) :
    MulSt da db (i + 1) 0 0 (l.set (i + db.length) on) where
  len := by rw [List.length_set]; exact h.len
  lt := mem_set_lt h.lt h.few
  zero j hj := by rw [getD_set_other (by omega)]; exact h.zero j (by omega)
  few := by omega
  eq := by
    have hlen := h.len
    have := mul_last (j := i + db.length) (by omega) h.eq (h.zero _ (Nat.le_refl _))
    rw [List.take_length] at this
    rw [Nat.mul_zero, Nat.add_zero, List.take_zero, show val [] = 0 from rfl, Nat.mul_zero, Nat.mul_zero, Nat.add_zero, this, val_take_step da i, Nat.add_mul, Nat.mul_comm (1000000000 ^ i) (da.getD i 0), Nat.mul_assoc]
theorem MulSt.done {da db : List Nat} {l : List Nat} (h : MulSt da db da.length 0 0 l) : val l = val da * val db := by
  have := h.eq
  rw [List.take_length, List.take_zero, show val [] = 0 from rfl, Nat.mul_zero, Nat.mul_zero, Nat.mul_zero, Nat.add_zero, Nat.add_zero] at this
  exact this
theorem mul_sgn {g g' : Bool} {z z' : Int} (h : g = decide (z < 0)) (h' : g' = decide (z' < 0)) : sgn (g != g') (val (dg z.natAbs) * val (dg z'.natAbs)) = z * z' := by
  rw [val_dg, val_dg]
  have e : ∀ x : Int, x = sgn (decide (x < 0)) x.natAbs := by
    intro x
    unfold sgn
    by_cases k : x < 0
    · rw [decide_eq_true k]; simp; omega
    · rw [decide_eq_false k]; simp; omega
  have e1 := e z
  have e2 := e z'
  rw [← h] at e1
  rw [← h'] at e2
  generalize z.natAbs = A at *
  generalize z'.natAbs = B at *
  rw [e1, e2]
  clear h h' e1 e2
  cases g <;> cases g' <;> simp [sgn, Int.neg_mul, Int.mul_neg]
end Go.Proofs.YtdamegaedmckbaaGreatDoor
end
