/- Package limbs: Of; slices.Clone; wide; short. No condition. -/
import Derived.Test.YtdamegaedmckbaaGreatDoorM5
import Derived.PlainAid
set_option linter.unusedSimpArgs false
set_option linter.unusedVariables false
section
namespace Go.Proofs.YtdamegaedmckbaaGreatDoor
open Go.RowKit

/-- A list of parts in memory of its own. -/
def RetList (w : World) (n : Nat) (d : List Nat) (e : Ending) (w' : World) : Prop :=
  ∃ a c, e = .returned (.slice a n c) ∧ RdL w' a n c d ∧ Fresh w.heap.size w' a c ∧ Below w.heap.size w w'
theorem lim_small_of_lt {d : List Nat} (h : ∀ x ∈ d, x < 4294967296) (i : Nat) : 0 ≤ lim d i ∧ lim d i < 4294967296 := by
  by_cases hi : i < d.length
  · have := h _ (List.getElem_mem hi)
    simp only [lim, List.getD, List.getElem?_eq_getElem hi, Option.getD_some]
    omega
  · rw [lim_out (Nat.le_of_not_lt hi)]; omega
theorem owns_list {w : World} {base n : Nat} {v : Value} {d : List Nat} (h : w.ownsRow base 112 1 v n (vals d)) (hn : n ≤ 35184372088832) (hs : ∀ i, 0 ≤ lim d i ∧ lim d i < 4294967296) :
    ∃ a c, v = .slice a n c ∧ RdL w a n c d ∧ Fresh base w a c := by
  have hlen : d.length = n := by have := h.1; rw [vals_length] at this; omega
  rcases h.2 with ⟨rfl, rfl⟩ | ⟨g, cap, cur, rfl, hb, hg, hnc, hcm, hcs, _⟩
  · exact ⟨none, 0, rfl, ⟨hlen, Nat.le_refl _, by omega, by omega, hs, .inl rfl⟩, .inl rfl⟩
  · exact ⟨_, _, rfl, rdl_of_owns h hn hs, .inr ⟨g, cur, rfl, hb, hg, by omega⟩⟩
theorem vals_lim {d : List Nat} {n : Nat} (hl : d.length = n) (j : Nat) (u : Value) (h : (vals d)[j]? = some u) : j < n ∧ u = .int .u32 (lim d j) := by
  have hj : j < d.length := by
    rcases Nat.lt_or_ge j d.length with h1 | h1
    · exact h1
    · rw [List.getElem?_eq_none (by rw [vals_length]; exact h1)] at h; cases h
  rw [vals_get d j hj] at h
  exact ⟨by omega, (Option.some.inj h).symm⟩
theorem rdl_cells {w : World} {b o n c : Nat} {d : List Nat} (h : RdL w (some ⟨b, o, none⟩) n c d) : ∀ j u, (vals d)[j]? = some u → w.cell? ((⟨b, o, none⟩ : Addr).add j) = some u := by
  intro j u hj
  obtain ⟨h1, rfl⟩ := vals_lim h.len j u hj
  have hadd : (⟨b, o, none⟩ : Addr).add j = ⟨b, o + j, none⟩ := by unfold Addr.add; split <;> simp_all
  rw [hadd]
  exact h.at h1
theorem vals_one (d : List Nat) : ∀ u ∈ vals d, u.oneCell' = true := by
  intro u hu
  simp only [vals, List.mem_map] at hu
  obtain ⟨z, _, rfl⟩ := hu
  rfl
set_option maxHeartbeats 400000 in
theorem Clone_c (w : World) (a : Option Addr) (n c : Nat) (d : List Nat) (hd : RdL w a n c d) :
    Calls Tryz.prog 211 #[.slice a n c] w (RetList w n d) := by
  obtain ⟨i0, hi, hz0, hz1, hz2⟩ := info_parts info112
  have hn := hd.few
  have HB := Below.refl w.heap.size w
  match a, hd with
  | none, hd =>
    have h0 : n = 0 := by
      rcases hd.cell with h | ⟨b, o, h, _⟩
      · exact h
      · cases h
    subst h0
    have hdn : d = [] := List.eq_nil_of_length_eq_zero hd.len
    have hq := fun (W : World) => Lib.run_eql_slice_nil (P := Tryz.prog) W 57 112 none 0 c 0 0 Tryz.underlying57
    have HN := Lib.hid hdn
    clear hdn
    go_enter Tryz.func211, Tryz.ntmps211
    go_wp2
    go_ret
    exact ⟨none, 0, rfl, by rw [HN.out]; exact ⟨rfl, Nat.le_refl _, by omega, by omega, fun i => by simp [lim], .inl rfl⟩, .inl rfl, HB⟩
  | some ad, hd =>
    have hsl : n = 0 ∨ ∃ b o, ad = ⟨b, o, none⟩ := by
      rcases hd.cell with h | ⟨b, o, h, _⟩
      · exact .inl h
      · exact .inr ⟨b, o, by cases h; rfl⟩
    have hcs : ∀ (W : World), Below w.heap.size w W → ∀ j u, (vals d)[j]? = some u → W.cell? (ad.add j) = some u := by
      intro W hW j u hj
      rcases hsl with h0 | ⟨b, o, rfl⟩
      · have := (vals_lim hd.len j u hj).1
        omega
      · exact rdl_cells (hd.keep hW) j u hj
    have HCS := Lib.hid hcs
    clear hcs
    have hq := fun (W : World) => Lib.run_eql_slice_nil (P := Tryz.prog) W 57 112 (some ad) n c 0 0 Tryz.underlying57
    go_enter Tryz.func211, Tryz.ntmps211
    have hlit : ∀ W : World, (W.alloc (.cells #[] 112)).ownsRow W.heap.size 112 1 (.slice (some ⟨W.heap.size, 0, none⟩) 0 0) 0 [] := fun W => World.ownsRow_lit (size := 1) W #[] 0 (Nat.le_refl _) (by unfold maxLen; omega) (by simp)
    have HLIT := Lib.hid hlit
    clear hlit
    go_wp2_with (at_builtin; refine wpList_append_own _ rfl _ _ 57 rfl w.heap.size 112 i0 (.int .u32 0) 1 4 Tryz.underlying57 hi hz0 hz1 hz2 rfl (by decide) _ _ _ rfl (HLIT.out w) ad n c (vals d) rfl (by rw [vals_length, hd.len]; omega) (HCS.out _ (by go_grown)) (vals_one d) (by unfold maxLen; omega) (by omega) (by go_size) ?_; intro v' w1 hown' hgrow hnil)
    rw [Nat.zero_add, List.nil_append] at hown'
    obtain ⟨a', c', rfl, hr, hfr⟩ := owns_list hown' hn hd.small
    go_ret
    refine ⟨a', c', rfl, hr, hfr, ?_⟩
    exact ((Below.refl w.heap.size w).alloc (Nat.le_refl _) _).grown hgrow (by go_size) (fun k h => by cases h; exact Nat.le_refl _)
theorem u64_back (A : Nat) (hA : A ≤ 9223372036854775808) (hA0 : 0 < A) : IntKind.u64.wrap (-IntKind.u64.wrap (-(A : Int))) = A := by
  simp only [IntKind.wrap_u64]
  omega
theorem pow3 : (1000000000 : Nat) ^ 3 = 1000000000000000000000000000 := by decide
theorem val_snoc (l : List Nat) (x : Nat) : val (l ++ [x]) = val l + 1000000000 ^ l.length * x := by rw [val_append]; simp [val]
/-- The digits are few: of a number of 64 bits. -/
theorem few_digits {l : List Nat} {v A : Nat} (h : val l + 1000000000 ^ l.length * v = A) (hA : A ≤ 9223372036854775808) (hv : 0 < v) : l.length ≤ 2 := by
  rcases Nat.lt_or_ge 2 l.length with h1 | h1
  · exfalso
    have h2 : 1000000000 ^ 3 ≤ 1000000000 ^ l.length := Nat.pow_le_pow_right (by omega) h1
    rw [pow3] at h2
    have h3 : 1000000000 ^ l.length * 1 ≤ 1000000000 ^ l.length * v := Nat.mul_le_mul_left _ hv
    omega
  · exact h1
theorem step_digits {l : List Nat} {v A : Nat} (h : val l + 1000000000 ^ l.length * v = A) : val (l ++ [v % 1000000000]) + 1000000000 ^ (l ++ [v % 1000000000]).length * (v / 1000000000) = A := by
  rw [val_snoc, List.length_append, List.length_singleton, Nat.pow_succ, Nat.mul_assoc, Nat.add_assoc, ← Nat.mul_add]
  have : v % 1000000000 + 1000000000 * (v / 1000000000) = v := by omega
  rw [this]
  exact h
set_option maxRecDepth 100000 in
set_option maxHeartbeats 1000000 in
theorem Of_pos (w : World) (A : Nat) (hA : A ≤ 9223372036854775807) : Calls Tryz.prog 27 #[.int .i64 (A : Int)] w (RetNum w (A : Int)) := by
  obtain ⟨i0, hi, hz0, hz1, hz2⟩ := info_parts info112
  have HB := Below.refl w.heap.size w
  go_enter Tryz.func27, Tryz.ntmps27
  go_wp2_with fail
  go_loopw [3, 4] (fun v3 v4 wr => ∃ (l : List Nat) (v : Nat), v3 = .int .u64 v ∧ Hid (val l + 1000000000 ^ l.length * v = A) ∧ l.length ≤ 3 ∧ v ≤ 9223372036854775808 ∧ (∀ x ∈ l, x < 1000000000) ∧ wr.ownsRow (w.heap.size + 1) 112 1 v4 l.length (vals l) ∧ w.heap.size < wr.heap.size ∧ wr.cell? ⟨w.heap.size, 0, none⟩ = some (.bool false) ∧ wr.cell? ⟨w.heap.size, 1, none⟩ = some (.slice none 0 0) ∧ wr.frozen? ⟨w.heap.size, 0, none⟩ = false ∧ wr.frozen? ⟨w.heap.size, 1, none⟩ = false ∧ Below w.heap.size w wr) (fun v3 _ _ => (intOf v3).toNat)
  case atStart => exact ⟨[], A, (by first | rfl | exact congrArg (Value.int .u64) (u64_back A hA hA0)), Lib.hid (by simp [val]), by simp, by omega, fun x hx => (by cases hx), World.ownsRow_nil _ _ _ _, by simp, by simp [go_sem], by simp [go_sem], by simp [go_sem], by simp [go_sem], by go_grown⟩
  case round =>
    obtain ⟨l, v, rfl, hv, hl3, hvb, hlt, hown, hlr, k0, k1, f0, f1, HB⟩ := hrel
    have HBz := HB.size
    have HLT := Lib.hid hlt
    clear hlt
    by_cases hp : 0 < v
    · have hl2 := few_digits hv.out (by omega) hp
      have hst := Lib.hid (step_digits hv.out)
      go_wp2_with (at_builtin; refine wpList_append_own _ rfl _ _ 57 rfl (w.heap.size + 1) 112 i0 (.int .u32 0) 1 4 Tryz.underlying57 hi hz0 hz1 hz2 rfl (by decide) _ _ _ rfl (hown.alloc _) ⟨wr.heap.size, 0, none⟩ 1 1 [.int .u32 ((v : Int) % 1000000000)] rfl rfl (cell_one_new _ _ _) (by simp [Value.oneCell']) (by unfold maxLen; omega) (by omega) (by go_size) ?_; intro v' w2 hown2 hgrow2 _)
      have hb2 : Below (w.heap.size + 1) wr w2 := ((Below.refl (w.heap.size + 1) wr).alloc (by omega) _).grown hgrow2 (by go_size) (fun k hk => (hown.lt k hk).1)
      go_roundw
      case rel =>
        refine ⟨l ++ [v % 1000000000], v / 1000000000, by simp, Lib.hid hst.out, by simp; omega, by omega, fun x hx => ?_, ?_, Nat.lt_of_lt_of_le hlr hb2.size, ?_, ?_, ?_, ?_, HB.trans (hb2.mono (by omega))⟩
        · rcases List.mem_append.1 hx with h | h
          · exact HLT.out x h
          · rw [List.mem_singleton] at h; omega
        · rw [List.length_append, List.length_singleton, vals_append]
          exact hown2
        · rw [hb2.cell (by show w.heap.size < w.heap.size + 1; omega)]; exact k0
        · rw [hb2.cell (by show w.heap.size < w.heap.size + 1; omega)]; exact k1
        · rw [hb2.frozen (by show w.heap.size < w.heap.size + 1; omega)]; exact f0
        · rw [hb2.frozen (by show w.heap.size < w.heap.size + 1; omega)]; exact f1
      case measure => simp [intOf]; omega
    · obtain rfl : v = 0 := by omega
      have hv0 := Lib.hid (show val l = A by have := hv.out; simpa using this)
      obtain ⟨a', c', rfl, hr, hfr⟩ := owns_list hown (by omega) (fun i => lim_small_of_lt (fun x hx => by have := HLT.out x hx; omega) i)
      go_wp2_with fail
      refine (cut_c _ false a' l.length c' l hr HLT.out).mono ?_
      rintro e w3 ⟨g3, n3, rfl, hn3, hnum, hb⟩
      obtain ⟨hc, hf⟩ := bcell hb; have hz := hb.size
      replace HB : Below w.heap.size w w3 := HB.trans (hb.mono HBz)
      have r0 : w3.cell? ⟨w.heap.size, 0, none⟩ = some (.bool false) := (hc _ _ hlr).trans k0
      have r1 : w3.cell? ⟨w.heap.size, 1, none⟩ = some (.slice none 0 0) := (hc _ _ hlr).trans k1
      have r2 : w3.frozen? ⟨w.heap.size, 0, none⟩ = false := (hf _ _ hlr).trans f0
      have r3 : w3.frozen? ⟨w.heap.size, 1, none⟩ = false := (hf _ _ hlr).trans f1
      go_wp2_with fail
      refine bodyPost_ret (v := .agg #[.bool g3, .slice a' n3 n3]) (by simp [results, Tryz.results27, go_sem, r0, r1]) rfl ?_
      have hfr3 : Fresh (w.heap.size + 1) w3 a' n3 := (hfr.keep hb).less hn3
      refine ⟨g3, a', n3, n3, rfl, ?_, ?_, by go_grown⟩
      · rw [hv0.out] at hnum
        exact (hnum.setFresh hfr3 _ _ (by show w.heap.size < _; omega)).setFresh (hfr3.setNew _ _ (by show w.heap.size < _; omega)) _ _ (by show w.heap.size < _; omega)
      · exact ((hfr3.setNew _ _ (by show w.heap.size < _; omega)).setNew _ _ (by show w.heap.size < _; omega)).mono (by omega)
set_option maxRecDepth 100000 in
set_option maxHeartbeats 1000000 in
theorem Of_neg (w : World) (A : Nat) (hA : A ≤ 9223372036854775808) (hA0 : 0 < A) : Calls Tryz.prog 27 #[.int .i64 (-(A : Int))] w (RetNum w (-(A : Int))) := by
  obtain ⟨i0, hi, hz0, hz1, hz2⟩ := info_parts info112
  have HB := Below.refl w.heap.size w
  have hneg : -(A : Int) < 0 := by omega
  have hmin : -9223372036854775808 ≤ -(A : Int) := by omega
  go_enter Tryz.func27, Tryz.ntmps27
  go_wp2_with fail
  go_loopw [3, 4] (fun v3 v4 wr => ∃ (l : List Nat) (v : Nat), v3 = .int .u64 v ∧ Hid (val l + 1000000000 ^ l.length * v = A) ∧ l.length ≤ 3 ∧ v ≤ 9223372036854775808 ∧ (∀ x ∈ l, x < 1000000000) ∧ wr.ownsRow (w.heap.size + 1) 112 1 v4 l.length (vals l) ∧ w.heap.size < wr.heap.size ∧ wr.cell? ⟨w.heap.size, 0, none⟩ = some (.bool false) ∧ wr.cell? ⟨w.heap.size, 1, none⟩ = some (.slice none 0 0) ∧ wr.frozen? ⟨w.heap.size, 0, none⟩ = false ∧ wr.frozen? ⟨w.heap.size, 1, none⟩ = false ∧ Below w.heap.size w wr) (fun v3 _ _ => (intOf v3).toNat)
  case atStart => exact ⟨[], A, (by first | rfl | exact congrArg (Value.int .u64) (u64_back A hA hA0)), Lib.hid (by simp [val]), by simp, by omega, fun x hx => (by cases hx), World.ownsRow_nil _ _ _ _, by simp, by simp [go_sem], by simp [go_sem], by simp [go_sem], by simp [go_sem], by go_grown⟩
  case round =>
    obtain ⟨l, v, rfl, hv, hl3, hvb, hlt, hown, hlr, k0, k1, f0, f1, HB⟩ := hrel
    have HBz := HB.size
    have HLT := Lib.hid hlt
    clear hlt
    by_cases hp : 0 < v
    · have hl2 := few_digits hv.out (by omega) hp
      have hst := Lib.hid (step_digits hv.out)
      go_wp2_with (at_builtin; refine wpList_append_own _ rfl _ _ 57 rfl (w.heap.size + 1) 112 i0 (.int .u32 0) 1 4 Tryz.underlying57 hi hz0 hz1 hz2 rfl (by decide) _ _ _ rfl (hown.alloc _) ⟨wr.heap.size, 0, none⟩ 1 1 [.int .u32 ((v : Int) % 1000000000)] rfl rfl (cell_one_new _ _ _) (by simp [Value.oneCell']) (by unfold maxLen; omega) (by omega) (by go_size) ?_; intro v' w2 hown2 hgrow2 _)
      have hb2 : Below (w.heap.size + 1) wr w2 := ((Below.refl (w.heap.size + 1) wr).alloc (by omega) _).grown hgrow2 (by go_size) (fun k hk => (hown.lt k hk).1)
      go_roundw
      case rel =>
        refine ⟨l ++ [v % 1000000000], v / 1000000000, by simp, Lib.hid hst.out, by simp; omega, by omega, fun x hx => ?_, ?_, Nat.lt_of_lt_of_le hlr hb2.size, ?_, ?_, ?_, ?_, HB.trans (hb2.mono (by omega))⟩
        · rcases List.mem_append.1 hx with h | h
          · exact HLT.out x h
          · rw [List.mem_singleton] at h; omega
        · rw [List.length_append, List.length_singleton, vals_append]
          exact hown2
        · rw [hb2.cell (by show w.heap.size < w.heap.size + 1; omega)]; exact k0
        · rw [hb2.cell (by show w.heap.size < w.heap.size + 1; omega)]; exact k1
        · rw [hb2.frozen (by show w.heap.size < w.heap.size + 1; omega)]; exact f0
        · rw [hb2.frozen (by show w.heap.size < w.heap.size + 1; omega)]; exact f1
      case measure => simp [intOf]; omega
    · obtain rfl : v = 0 := by omega
      have hv0 := Lib.hid (show val l = A by have := hv.out; simpa using this)
      obtain ⟨a', c', rfl, hr, hfr⟩ := owns_list hown (by omega) (fun i => lim_small_of_lt (fun x hx => by have := HLT.out x hx; omega) i)
      go_wp2_with fail
      refine (cut_c _ true a' l.length c' l hr HLT.out).mono ?_
      rintro e w3 ⟨g3, n3, rfl, hn3, hnum, hb⟩
      obtain ⟨hc, hf⟩ := bcell hb; have hz := hb.size
      replace HB : Below w.heap.size w w3 := HB.trans (hb.mono HBz)
      have r0 : w3.cell? ⟨w.heap.size, 0, none⟩ = some (.bool false) := (hc _ _ hlr).trans k0
      have r1 : w3.cell? ⟨w.heap.size, 1, none⟩ = some (.slice none 0 0) := (hc _ _ hlr).trans k1
      have r2 : w3.frozen? ⟨w.heap.size, 0, none⟩ = false := (hf _ _ hlr).trans f0
      have r3 : w3.frozen? ⟨w.heap.size, 1, none⟩ = false := (hf _ _ hlr).trans f1
      go_wp2_with fail
      refine bodyPost_ret (v := .agg #[.bool g3, .slice a' n3 n3]) (by simp [results, Tryz.results27, go_sem, r0, r1]) rfl ?_
      have hfr3 : Fresh (w.heap.size + 1) w3 a' n3 := (hfr.keep hb).less hn3
      refine ⟨g3, a', n3, n3, rfl, ?_, ?_, by go_grown⟩
      · rw [hv0.out] at hnum
        exact (hnum.setFresh hfr3 _ _ (by show w.heap.size < _; omega)).setFresh (hfr3.setNew _ _ (by show w.heap.size < _; omega)) _ _ (by show w.heap.size < _; omega)
      · exact ((hfr3.setNew _ _ (by show w.heap.size < _; omega)).setNew _ _ (by show w.heap.size < _; omega)).mono (by omega)
theorem Of_c (w : World) (z : Int) (h0 : -9223372036854775808 ≤ z) (h1 : z ≤ 9223372036854775807) : Calls Tryz.prog 27 #[.int .i64 z] w (RetNum w z) := by
  rcases Int.lt_or_le z 0 with h | h
  · have := Of_neg w z.natAbs (by omega) (by omega)
    rwa [show -(z.natAbs : Int) = z by omega] at this
  · have := Of_pos w z.natAbs (by omega)
    rwa [show (z.natAbs : Int) = z by omega] at this
end Go.Proofs.YtdamegaedmckbaaGreatDoor
end
