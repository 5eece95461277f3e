/- Package spells: words. -/
import Derived.Test.YtdamegaedmckbaaGreatDoorS23
import Derived.Deep.AppendLies
set_option linter.unusedSimpArgs false
set_option linter.unusedVariables false
set_option linter.unusedSimpArgs false
namespace Go.Proofs.YtdamegaedmckbaaGreatDoor
open Go.RowKit

theorem info9 : (Tryz.prog.info? 9).map (fun i => (i.zero, i.size, i.bytes)) = some (some (.string ⟨#[]⟩), 1, 16) := by kernel_rfl

/-- Texts as values. -/
def svals (l : List (List UInt8)) : List Value := l.map fun t => Value.string ⟨t.toArray⟩

theorem svals_length (l : List (List UInt8)) : (svals l).length = l.length := by simp [svals]
theorem svals_append (l m : List (List UInt8)) : svals (l ++ m) = svals l ++ svals m := by simp [svals]
theorem svals_one (l : List (List UInt8)) : ∀ u ∈ svals l, u.oneCell' = true := by
  intro u hu
  simp only [svals, List.mem_map] at hu
  obtain ⟨z, _, rfl⟩ := hu
  rfl

/-- The letters of a product, the first k. -/
def lets (m : Nat → Nat) : Nat → List (List UInt8)
  | 0 => []
  | k + 1 => lets m k ++ (if 0 < m k then [letterL k (m k)] else [])

theorem lets_len (m : Nat → Nat) (k : Nat) : (lets m k).length ≤ k := by
  induction k with
  | zero => simp [lets]
  | succ k ih => rw [lets, List.length_append]; split <;> simp <;> omega

/-- The words of a term: its fraction's text t. -/
def wordsL (t : List UInt8) (m : Nat → Nat) : List (List UInt8) := if t ≠ [49] ∨ lets m 4 = [] then t :: lets m 4 else lets m 4

def RetWords (w : World) (l : List (List UInt8)) (e : Ending) (w' : World) : Prop :=
  ∃ v, e = .returned v ∧ w'.ownsRow w.heap.size 9 1 v l.length (svals l) ∧ Below w.heap.size w w'

/-- Four counts as naturals. -/
def quadN (m0 m1 m2 m3 : Nat) : Nat → Nat
  | 0 => m0
  | 1 => m1
  | 2 => m2
  | _ => m3

theorem ownsRow_base {w : World} {base base' : Nat} {e : TypeId} {size : Nat} {v : Value} {n : Nat} {xs : List Value} (h : w.ownsRow base e size v n xs) (hb : base' ≤ base) : w.ownsRow base' e size v n xs := by
  refine ⟨h.1, ?_⟩
  rcases h.2 with h0 | ⟨g, cap, cur, hv, hg, hr⟩
  · exact .inl h0
  · exact .inr ⟨g, cap, cur, hv, Nat.le_trans hb hg, hr⟩

theorem owns_cells {w : World} {base g n c : Nat} {e : TypeId} {xs : List Value} (h : w.ownsRow base e 1 (.slice (some ⟨g, 0, none⟩) n c) n xs) : ∀ j u, xs[j]? = some u → w.cell? ((⟨g, 0, none⟩ : Addr).add j) = some u := by
  intro j u hj
  have hadd : (⟨g, 0, none⟩ : Addr).add j = ⟨g, j, none⟩ := by unfold Addr.add; split <;> simp_all
  have hl := h.1
  have hjl : j < xs.length := by
    rcases Nat.lt_or_ge j xs.length with h1 | h1
    · exact h1
    · rw [List.getElem?_eq_none h1] at hj; cases hj
  rw [hadd, h.cellAt j (by omega)]
  exact hj

set_option maxRecDepth 100000 in
set_option maxHeartbeats 4000000 in
theorem words_c (w : World) (g1 : Bool) (a1 : Option Addr) (n1 c1 : Nat) (p : Int) (g2 : Bool) (a2 : Option Addr) (n2 c2 : Nat) (q : Int) (h : FracAt w g1 a1 n1 c1 p g2 a2 n2 c2 q) (hs : n2 ≤ 1) (hb1 : n1 ≤ 1000000) (hT : Tab w)
    (m0 m1 m2 m3 : Nat) (h0 : m0 < 65536) (h1 : m1 < 65536) (h2 : m2 < 65536) (h3 : m3 < 65536) :
    Calls Tryz.prog 38 #[.agg #[.bool g1, .slice a1 n1 c1, .bool g2, .slice a2 n2 c2], .agg #[.int .u16 m0, .int .u16 m1, .int .u16 m2, .int .u16 m3]] w (RetWords w (wordsL (ftext p q) (quadN m0 m1 m2 m3))) := by
  obtain ⟨i0, hi, hz0, hz1, hz2⟩ := info_parts info9
  have HB := Below.refl w.heap.size w
  go_enter Tryz.func38, Tryz.ntmps38
  go_wp2_with fail
  go_loopw [4, 9] (fun v4 v9 wr => ∃ k : Nat, k ≤ 4 ∧ v9 = .int .i64 k ∧ wr.ownsRow (w.heap.size + 1 + 1) 9 1 v4 (lets (quadN m0 m1 m2 m3) k).length (svals (lets (quadN m0 m1 m2 m3) k)) ∧ w.heap.size + 1 < wr.heap.size ∧ wr.cell? ⟨w.heap.size, 0, none⟩ = some (.bool g1) ∧ wr.cell? ⟨w.heap.size, 1, none⟩ = some (.slice a1 n1 c1) ∧ wr.cell? ⟨w.heap.size, 2, none⟩ = some (.bool g2) ∧ wr.cell? ⟨w.heap.size, 3, none⟩ = some (.slice a2 n2 c2) ∧ Below w.heap.size w wr ∧ (lets (quadN m0 m1 m2 m3) k = [] → v4 = .slice none 0 0)) (fun _ v9 _ => 4 - (intOf v9).toNat)
  case atStart => exact ⟨0, by omega, rfl, World.ownsRow_nil _ _ _ _, by simp, by simp [go_sem], by simp [go_sem], by simp [go_sem], by simp [go_sem], by go_grown, fun _ => rfl⟩
  case round =>
    obtain ⟨k, hk, rfl, hown, hlr, k0, k1, k2, k3, HBr, hnil⟩ := hrel
    have HN := Lib.hid hnil
    clear hnil
    clear HB
    by_cases hlt : k < 4
    · obtain ⟨x, hx⟩ : ∃ x, x = quadN m0 m1 m2 m3 k := ⟨_, rfl⟩
      have hxl : x < 65536 := by
        rw [hx]
        match k, hlt with
        | 0, _ => exact h0
        | 1, _ => exact h1
        | 2, _ => exact h2
        | 3, _ => exact h3
      have hix : ∀ W : World, (Instr.index 66 (.agg #[.int .u16 m0, .int .u16 m1, .int .u16 m2, .int .u16 m3]) (.int .i64 k)).run Tryz.prog W = .ok (.int .u16 x) W := by
        rw [hx]
        match k, hlt with
        | 0, _ => intro W; kernel_rfl
        | 1, _ => intro W; kernel_rfl
        | 2, _ => intro W; kernel_rfl
        | 3, _ => intro W; kernel_rfl
      have HX := Lib.hid hx
      clear hx
      by_cases hp : 0 < x
      · go_wp2_with fail
        refine (letter_c wr k x hlt hxl (hT.keep HBr)).mono ?_
        rintro e w2 ⟨rfl, hb2⟩
        have hown2 := ownsRow_keep hown hb2
        have hsz2 := hb2.size
        have HB2 := HBr.trans (hb2.mono HBr.size)
        have k0' := cell_keep hb2 k0
        have k1' := cell_keep hb2 k1
        have k2' := cell_keep hb2 k2
        have k3' := cell_keep hb2 k3
        have hll := lets_len (quadN m0 m1 m2 m3) k
        clear hown k0 k1 k2 k3
        go_wp2_with (at_builtin; refine wpList_append_own _ rfl _ _ 53 rfl (w.heap.size + 1 + 1) 9 i0 (.string ⟨#[]⟩) 1 16 Tryz.underlying53 hi hz0 hz1 hz2 rfl (by decide) _ _ _ rfl (hown2.alloc _) ⟨w2.heap.size, 0, none⟩ 1 1 [.string ⟨(letterL k x).toArray⟩] rfl rfl (cell_one_new _ _ _) (by simp [Value.oneCell']) (by unfold maxLen; omega) (by omega) (by go_size) ?_; intro v' w3 hown3 hgrow3 _)
        have hb3 : Below (w.heap.size + 1 + 1) w2 w3 := ((Below.refl (w.heap.size + 1 + 1) w2).alloc (by omega) _).grown hgrow3 (by go_size) (fun k hk => (hown2.lt k hk).1)
        have hsz3 := hb3.size
        go_roundw
        case rel =>
          have e : lets (quadN m0 m1 m2 m3) (k + 1) = lets (quadN m0 m1 m2 m3) k ++ [letterL k x] := by rw [lets, ← HX.out, if_pos hp]
          refine ⟨k + 1, by omega, by simp, ?_, by omega, (hb3.cell (by show w.heap.size < _; omega)).trans k0', (hb3.cell (by show w.heap.size < _; omega)).trans k1', (hb3.cell (by show w.heap.size < _; omega)).trans k2', (hb3.cell (by show w.heap.size < _; omega)).trans k3', HB2.trans (hb3.mono (by omega)), fun h => by rw [e] at h; simp at h⟩
          rw [e, List.length_append, List.length_singleton, svals_append]
          exact hown3
        case measure => simp [intOf]; omega
      · obtain rfl : x = 0 := by omega
        go_wp2_with fail
        go_roundw
        case rel =>
          have e : lets (quadN m0 m1 m2 m3) (k + 1) = lets (quadN m0 m1 m2 m3) k := by rw [lets, if_neg (by rw [← HX.out]; omega), List.append_nil]
          refine ⟨k + 1, by omega, by simp, by rw [e]; exact hown, hlr, k0, k1, k2, k3, HBr, fun h => HN.out (by rw [← e]; exact h)⟩
        case measure => simp [intOf]; omega
    · obtain rfl : k = 4 := by omega
      go_wp2_with fail
      refine (fText_c _ _ _ _ _ _ _ _ _ _ _ (h.keep HBr) hs hb1 (hT.keep HBr)).mono ?_
      rintro e w2 ⟨rfl, hb2⟩
      have hown2 := ownsRow_keep hown hb2
      have hsz2 := hb2.size
      have HB2 := HBr.trans (hb2.mono HBr.size)
      have hll := lets_len (quadN m0 m1 m2 m3) 4
      clear hown k0 k1 k2 k3
      by_cases hl0 : lets (quadN m0 m1 m2 m3) 4 = []
      · obtain rfl := HN.out hl0
        have HL := Lib.hid hl0
        have hszw := HB2.size
        have hlit := World.ownsRow_lit (base := w.heap.size) (e := 9) (size := 1) w2 #[.string ⟨(ftext p q).toArray⟩] 1 (by omega) (by unfold maxLen; omega) rfl
        have e : wordsL (ftext p q) (quadN m0 m1 m2 m3) = [ftext p q] := by rw [wordsL, if_pos (.inr hl0), hl0]
        have HLIT := Lib.hid hlit
        have HE := Lib.hid e
        clear hlit e hl0
        generalize ftext p q = T at *
        go_wp2_with fail
        all_goals
          go_ret
          refine ⟨.slice (some ⟨w2.heap.size, 0, none⟩) 1 1, rfl, ?_, by go_grown⟩
          have h9 := HLIT.out
          have h8 := HE.out
          first
            | (rw [h8]; exact h9)
            | (rename_i hT9 _; subst hT9; rw [h8]; exact h9)
            | (simp only [*] at h8 h9 ⊢; rw [h8]; exact h9)
      · have HL0 := Lib.hid hl0
        have hlp : 0 < (lets (quadN m0 m1 m2 m3) 4).length := by
          rcases Nat.eq_zero_or_pos (lets (quadN m0 m1 m2 m3) 4).length with h | h
          · exact absurd (List.eq_nil_of_length_eq_zero h) hl0
          · exact h
        have hlz : (((lets (quadN m0 m1 m2 m3) 4).length : Int) == 0) = false := by rw [beq_eq_false_iff_ne]; omega
        obtain ⟨g, cap, rfl, hgb, hgc⟩ := hown2.form hlp
        have HW1 := Lib.hid (show ftext p q = [49] → wordsL (ftext p q) (quadN m0 m1 m2 m3) = lets (quadN m0 m1 m2 m3) 4 from fun h => by rw [wordsL, if_neg (by simp [h, hl0])])
        have HW2 := Lib.hid (show ftext p q ≠ [49] → wordsL (ftext p q) (quadN m0 m1 m2 m3) = ftext p q :: lets (quadN m0 m1 m2 m3) 4 from fun h => by rw [wordsL, if_pos (.inl h)])
        clear hl0
        have hszw := HB2.size
        generalize ftext p q = T at *
        by_cases hT : T = [49]
        · have HWE := Lib.hid (HW1.out hT)
          have HT := Lib.hid hT
          subst hT
          go_wp2_with fail
          go_ret
          refine ⟨_, rfl, ?_, HB2⟩
          rw [HWE.out]
          exact ownsRow_base hown2 (by omega)
        · have HWE := Lib.hid (HW2.out hT)
          have hT1 : (T == [49]) = false := by rw [beq_eq_false_iff_ne]; exact hT
          clear hT
          have hlit := World.ownsRow_lit (base := w.heap.size) (e := 9) (size := 1) w2 #[.string ⟨T.toArray⟩] 1 (by omega) (by unfold maxLen; omega) rfl
          have HLIT := Lib.hid hlit
          have HCS := Lib.hid (owns_cells (hown2.alloc (.cells #[.string ⟨T.toArray⟩] 9)))
          clear hlit
          go_wp2_with (at_builtin; refine wpList_append_own _ rfl _ _ 53 rfl w.heap.size 9 i0 (.string ⟨#[]⟩) 1 16 Tryz.underlying53 hi hz0 hz1 hz2 rfl (by decide) _ _ _ rfl HLIT.out ⟨g, 0, none⟩ (lets (quadN m0 m1 m2 m3) 4).length cap (svals (lets (quadN m0 m1 m2 m3) 4)) rfl (by rw [svals_length]; omega) HCS.out (svals_one _) (by unfold maxLen; omega) (by omega) (by go_size) ?_; intro v' w3 hown3 hgrow3 _)
          go_ret
          refine ⟨_, rfl, ?_, HB2.trans (((Below.refl w2.heap.size w2).alloc (Nat.le_refl _) _).grown hgrow3 (by simp) (fun k hk => by cases hk; exact Nat.le_refl _) |>.mono (by omega))⟩
          rw [HWE.out]
          have e : (T :: lets (quadN m0 m1 m2 m3) 4).length = 1 + (lets (quadN m0 m1 m2 m3) 4).length := by simp; omega
          rw [e]
          exact hown3
end Go.Proofs.YtdamegaedmckbaaGreatDoor
