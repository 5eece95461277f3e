/- Package spells: words. A sum's text, as a list of words, and as it grows term by term. No program. The document's answer, layer 6: count, letters. The document's answer, layer 6: Text of a sum. -/
import Derived.Test.YtdamegaedmckbaaGreatDoorX21
import Derived.Test.YtdamegaedmckbaaGreatDoorX19
import Derived.Test.YtdamegaedmckbaaGreatDoorX16
import Derived.Deep.AppendLies
import Derived.Lib.Join
import Derived.WalkLawsBesides
import Derived.Deep.CutBlock
set_option linter.unusedSimpArgs false
set_option linter.unusedVariables false
section
namespace Go.Proofs.YtdamegaedmckbaaGreatDoor
open Go.RowKit

theorem info9 : (Tryz.prog.info? 9).map (fun i => (i.zero, i.size, i.bytes)) = some (some (.string ⟨#[]⟩), 1, 16) := by kernel_rfl
/-- Texts as values. -/
def svals (l : List (List UInt8)) : List Value := l.map fun t => Value.string ⟨t.toArray⟩
theorem svals_length (l : List (List UInt8)) : (svals l).length = l.length := by simp [svals]
theorem svals_append (l m : List (List UInt8)) : svals (l ++ m) = svals l ++ svals m := by simp [svals]
theorem svals_one (l : List (List UInt8)) : ∀ u ∈ svals l, u.oneCell' = true := by
  intro u hu
  simp only [svals, List.mem_map] at hu
  obtain ⟨z, _, rfl⟩ := hu
  rfl
/-- The letters of a product, the first k. -/
def lets (m : Nat → Nat) : Nat → List (List UInt8)
  | 0 => []
  | k + 1 => lets m k ++ (if 0 < m k then [letterL k (m k)] else [])
theorem lets_len (m : Nat → Nat) (k : Nat) : (lets m k).length ≤ k := by
  induction k with
  | zero => simp [lets]
  | succ k ih => rw [lets, List.length_append]; split <;> simp <;> omega
/-- The words of a term: its fraction's text t. -/
def wordsL (t : List UInt8) (m : Nat → Nat) : List (List UInt8) := if t ≠ [49] ∨ lets m 4 = [] then t :: lets m 4 else lets m 4
def RetWords (w : World) (l : List (List UInt8)) (e : Ending) (w' : World) : Prop :=
  ∃ v, e = .returned v ∧ w'.ownsRow w.heap.size 9 1 v l.length (svals l) ∧ Below w.heap.size w w'
/-- Four counts as naturals. -/
def quadN (m0 m1 m2 m3 : Nat) : Nat → Nat
  | 0 => m0
  | 1 => m1
  | 2 => m2
  | _ => m3
theorem ownsRow_base {w : World} {base base' : Nat} {e : TypeId} {size : Nat} {v : Value} {n : Nat} {xs : List Value} (h : w.ownsRow base e size v n xs) (hb : base' ≤ base) : w.ownsRow base' e size v n xs := by
  refine ⟨h.1, ?_⟩
  rcases h.2 with h0 | ⟨g, cap, cur, hv, hg, hr⟩
  · exact .inl h0
  · exact .inr ⟨g, cap, cur, hv, Nat.le_trans hb hg, hr⟩
theorem owns_cells {w : World} {base g n c : Nat} {e : TypeId} {xs : List Value} (h : w.ownsRow base e 1 (.slice (some ⟨g, 0, none⟩) n c) n xs) : ∀ j u, xs[j]? = some u → w.cell? ((⟨g, 0, none⟩ : Addr).add j) = some u := by
  intro j u hj
  have hadd : (⟨g, 0, none⟩ : Addr).add j = ⟨g, j, none⟩ := by unfold Addr.add; split <;> simp_all
  have hl := h.1
  have hjl : j < xs.length := by
    rcases Nat.lt_or_ge j xs.length with h1 | h1
    · exact h1
    · rw [List.getElem?_eq_none h1] at hj; cases hj
  rw [hadd, h.cellAt j (by omega)]
  exact hj
set_option maxRecDepth 100000 in
set_option maxHeartbeats 4000000 in
theorem words_c (w : World) (g1 : Bool) (a1 : Option Addr) (n1 c1 : Nat) (p : Int) (g2 : Bool) (a2 : Option Addr) (n2 c2 : Nat) (q : Int) (h : FracAt w g1 a1 n1 c1 p g2 a2 n2 c2 q) (hs : n2 ≤ 1000000) (hb1 : n1 ≤ 1000000) (hT : Tab w)
    (m0 m1 m2 m3 : Nat) (h0 : m0 < 65536) (h1 : m1 < 65536) (h2 : m2 < 65536) (h3 : m3 < 65536) :
    Calls Tryz.prog 38 #[.agg #[.bool g1, .slice a1 n1 c1, .bool g2, .slice a2 n2 c2], .agg #[.int .u16 m0, .int .u16 m1, .int .u16 m2, .int .u16 m3]] w (RetWords w (wordsL (ftext p q) (quadN m0 m1 m2 m3))) := by
  obtain ⟨i0, hi, hz0, hz1, hz2⟩ := info_parts info9
  have HB := Below.refl w.heap.size w
  go_enter Tryz.func38, Tryz.ntmps38
  go_wp2_with fail
  go_loopw [4, 9] (fun v4 v9 wr => ∃ k : Nat, k ≤ 4 ∧ v9 = .int .i64 k ∧ wr.ownsRow (w.heap.size + 1 + 1) 9 1 v4 (lets (quadN m0 m1 m2 m3) k).length (svals (lets (quadN m0 m1 m2 m3) k)) ∧ w.heap.size + 1 < wr.heap.size ∧ wr.cell? ⟨w.heap.size, 0, none⟩ = some (.bool g1) ∧ wr.cell? ⟨w.heap.size, 1, none⟩ = some (.slice a1 n1 c1) ∧ wr.cell? ⟨w.heap.size, 2, none⟩ = some (.bool g2) ∧ wr.cell? ⟨w.heap.size, 3, none⟩ = some (.slice a2 n2 c2) ∧ Below w.heap.size w wr ∧ (lets (quadN m0 m1 m2 m3) k = [] → v4 = .slice none 0 0)) (fun _ v9 _ => 4 - (intOf v9).toNat)
  case atStart => exact ⟨0, by omega, rfl, World.ownsRow_nil _ _ _ _, by simp, by simp [go_sem], by simp [go_sem], by simp [go_sem], by simp [go_sem], by go_grown, fun _ => rfl⟩
  case round =>
    obtain ⟨k, hk, rfl, hown, hlr, k0, k1, k2, k3, HBr, hnil⟩ := hrel
    have HN := Lib.hid hnil
    clear hnil
    clear HB
    by_cases hlt : k < 4
    · obtain ⟨x, hx⟩ : ∃ x, x = quadN m0 m1 m2 m3 k := ⟨_, rfl⟩
      have hxl : x < 65536 := by
        rw [hx]
        match k, hlt with
        | 0, _ => exact h0
        | 1, _ => exact h1
        | 2, _ => exact h2
        | 3, _ => exact h3
      have hix : ∀ W : World, (Instr.index 66 (.agg #[.int .u16 m0, .int .u16 m1, .int .u16 m2, .int .u16 m3]) (.int .i64 k)).run Tryz.prog W = .ok (.int .u16 x) W := by
        rw [hx]
        match k, hlt with
        | 0, _ => intro W; kernel_rfl
        | 1, _ => intro W; kernel_rfl
        | 2, _ => intro W; kernel_rfl
        | 3, _ => intro W; kernel_rfl
      have HX := Lib.hid hx
      clear hx
      by_cases hp : 0 < x
      · go_wp2_with fail
        refine (letter_c wr k x hlt hxl (hT.keep HBr)).mono ?_
        rintro e w2 ⟨rfl, hb2⟩
        have hown2 := ownsRow_keep hown hb2
        have hsz2 := hb2.size
        have HB2 := HBr.trans (hb2.mono HBr.size)
        have k0' := cell_keep hb2 k0
        have k1' := cell_keep hb2 k1
        have k2' := cell_keep hb2 k2
        have k3' := cell_keep hb2 k3
        have hll := lets_len (quadN m0 m1 m2 m3) k
        clear hown k0 k1 k2 k3
        go_wp2_with (at_builtin; refine wpList_append_own _ rfl _ _ 53 rfl (w.heap.size + 1 + 1) 9 i0 (.string ⟨#[]⟩) 1 16 Tryz.underlying53 hi hz0 hz1 hz2 rfl (by decide) _ _ _ rfl (hown2.alloc _) ⟨w2.heap.size, 0, none⟩ 1 1 [.string ⟨(letterL k x).toArray⟩] rfl rfl (cell_one_new _ _ _) (by simp [Value.oneCell']) (by unfold maxLen; omega) (by omega) (by go_size) ?_; intro v' w3 hown3 hgrow3 _)
        have hb3 : Below (w.heap.size + 1 + 1) w2 w3 := ((Below.refl (w.heap.size + 1 + 1) w2).alloc (by omega) _).grown hgrow3 (by go_size) (fun k hk => (hown2.lt k hk).1)
        have hsz3 := hb3.size
        go_roundw
        case rel =>
          have e : lets (quadN m0 m1 m2 m3) (k + 1) = lets (quadN m0 m1 m2 m3) k ++ [letterL k x] := by rw [lets, ← HX.out, if_pos hp]
          refine ⟨k + 1, by omega, by simp, ?_, by omega, (hb3.cell (by show w.heap.size < _; omega)).trans k0', (hb3.cell (by show w.heap.size < _; omega)).trans k1', (hb3.cell (by show w.heap.size < _; omega)).trans k2', (hb3.cell (by show w.heap.size < _; omega)).trans k3', HB2.trans (hb3.mono (by omega)), fun h => by rw [e] at h; simp at h⟩
          rw [e, List.length_append, List.length_singleton, svals_append]
          exact hown3
        case measure => simp [intOf]; omega
      · obtain rfl : x = 0 := by omega
        go_wp2_with fail
        go_roundw
        case rel =>
          have e : lets (quadN m0 m1 m2 m3) (k + 1) = lets (quadN m0 m1 m2 m3) k := by rw [lets, if_neg (by rw [← HX.out]; omega), List.append_nil]
          refine ⟨k + 1, by omega, by simp, by rw [e]; exact hown, hlr, k0, k1, k2, k3, HBr, fun h => HN.out (by rw [← e]; exact h)⟩
        case measure => simp [intOf]; omega
    · obtain rfl : k = 4 := by omega
      go_wp2_with fail
      refine (fText_c _ _ _ _ _ _ _ _ _ _ _ (h.keep HBr) hs hb1 (hT.keep HBr)).mono ?_
      rintro e w2 ⟨rfl, hb2⟩
      have hown2 := ownsRow_keep hown hb2
      have hsz2 := hb2.size
      have HB2 := HBr.trans (hb2.mono HBr.size)
      have hll := lets_len (quadN m0 m1 m2 m3) 4
      clear hown k0 k1 k2 k3
      by_cases hl0 : lets (quadN m0 m1 m2 m3) 4 = []
      · obtain rfl := HN.out hl0
        have HL := Lib.hid hl0
        have hszw := HB2.size
        have hlit := World.ownsRow_lit (base := w.heap.size) (e := 9) (size := 1) w2 #[.string ⟨(ftext p q).toArray⟩] 1 (by omega) (by unfold maxLen; omega) rfl
        have e : wordsL (ftext p q) (quadN m0 m1 m2 m3) = [ftext p q] := by rw [wordsL, if_pos (.inr hl0), hl0]
        have HLIT := Lib.hid hlit
        have HE := Lib.hid e
        clear hlit e hl0
        generalize ftext p q = T at *
        go_wp2_with fail
        all_goals
          go_ret
          refine ⟨.slice (some ⟨w2.heap.size, 0, none⟩) 1 1, rfl, ?_, by go_grown⟩
          have h9 := HLIT.out
          have h8 := HE.out
          first
            | (rw [h8]; exact h9)
            | (rename_i hT9 _; subst hT9; rw [h8]; exact h9)
            | (simp only [*] at h8 h9 ⊢; rw [h8]; exact h9)
      · have HL0 := Lib.hid hl0
        have hlp : 0 < (lets (quadN m0 m1 m2 m3) 4).length := by
          rcases Nat.eq_zero_or_pos (lets (quadN m0 m1 m2 m3) 4).length with h | h
          · exact absurd (List.eq_nil_of_length_eq_zero h) hl0
          · exact h
        have hlz : (((lets (quadN m0 m1 m2 m3) 4).length : Int) == 0) = false := by rw [beq_eq_false_iff_ne]; omega
        obtain ⟨g, cap, rfl, hgb, hgc⟩ := hown2.form hlp
        have HW1 := Lib.hid (show ftext p q = [49] → wordsL (ftext p q) (quadN m0 m1 m2 m3) = lets (quadN m0 m1 m2 m3) 4 from fun h => by rw [wordsL, if_neg (by simp [h, hl0])])
        have HW2 := Lib.hid (show ftext p q ≠ [49] → wordsL (ftext p q) (quadN m0 m1 m2 m3) = ftext p q :: lets (quadN m0 m1 m2 m3) 4 from fun h => by rw [wordsL, if_pos (.inl h)])
        clear hl0
        have hszw := HB2.size
        generalize ftext p q = T at *
        by_cases hT : T = [49]
        · have HWE := Lib.hid (HW1.out hT)
          have HT := Lib.hid hT
          subst hT
          go_wp2_with fail
          go_ret
          refine ⟨_, rfl, ?_, HB2⟩
          rw [HWE.out]
          exact ownsRow_base hown2 (by omega)
        · have HWE := Lib.hid (HW2.out hT)
          have hT1 : (T == [49]) = false := by rw [beq_eq_false_iff_ne]; exact hT
          clear hT
          have hlit := World.ownsRow_lit (base := w.heap.size) (e := 9) (size := 1) w2 #[.string ⟨T.toArray⟩] 1 (by omega) (by unfold maxLen; omega) rfl
          have HLIT := Lib.hid hlit
          have HCS := Lib.hid (owns_cells (hown2.alloc (.cells #[.string ⟨T.toArray⟩] 9)))
          clear hlit
          go_wp2_with (at_builtin; refine wpList_append_own _ rfl _ _ 53 rfl w.heap.size 9 i0 (.string ⟨#[]⟩) 1 16 Tryz.underlying53 hi hz0 hz1 hz2 rfl (by decide) _ _ _ rfl HLIT.out ⟨g, 0, none⟩ (lets (quadN m0 m1 m2 m3) 4).length cap (svals (lets (quadN m0 m1 m2 m3) 4)) rfl (by rw [svals_length]; omega) HCS.out (svals_one _) (by unfold maxLen; omega) (by omega) (by go_size) ?_; intro v' w3 hown3 hgrow3 _)
          go_ret
          refine ⟨_, rfl, ?_, HB2.trans (((Below.refl w2.heap.size w2).alloc (Nat.le_refl _) _).grown hgrow3 (by simp) (fun k hk => by cases hk; exact Nat.le_refl _) |>.mono (by omega))⟩
          rw [HWE.out]
          have e : (T :: lets (quadN m0 m1 m2 m3) 4).length = 1 + (lets (quadN m0 m1 m2 m3) 4).length := by simp; omega
          rw [e]
          exact hown3
end Go.Proofs.YtdamegaedmckbaaGreatDoor
end
section
namespace Go.Proofs.YtdamegaedmckbaaGreatDoor

theorem joinTail_append (sep : List UInt8) (l m : List (List UInt8)) : Lib.joinTail sep (l ++ m) = Lib.joinTail sep l ++ Lib.joinTail sep m := by
  simp [Lib.joinTail]
theorem join_append {l m : List (List UInt8)} (hl : l ≠ []) (hm : m ≠ []) : Lib.join (l ++ m) [32] = Lib.join l [32] ++ 32 :: Lib.join m [32] := by
  obtain ⟨x, l, rfl⟩ := List.exists_cons_of_ne_nil hl
  obtain ⟨y, m, rfl⟩ := List.exists_cons_of_ne_nil hm
  rw [List.cons_append, Lib.join_cons, joinTail_append, Lib.join_cons, Lib.join_cons, List.append_assoc]
  simp [Lib.joinTail]
/-- A term's text behind its sign: its fraction's text t, its letters' text l. -/
def bodyL (t l : List UInt8) : List UInt8 := if l = [] then t else if t = [49] then l else t ++ 32 :: l
theorem letterL_ne (i n : Nat) : letterL i n ≠ [] := by simp [letterL]
theorem lets_ne {m : Nat → Nat} (k : Nat) : ∀ x ∈ lets m k, x ≠ [] := by
  induction k with
  | zero => intro x hx; cases hx
  | succ k ih =>
    intro x hx
    rw [lets, List.mem_append] at hx
    rcases hx with hx | hx
    · exact ih x hx
    · split at hx
      · rw [List.mem_singleton] at hx; rw [hx]; exact letterL_ne _ _
      · cases hx
theorem join_nil_iff {l : List (List UInt8)} (h : ∀ x ∈ l, x ≠ []) : Lib.join l [32] = [] ↔ l = [] := by
  constructor
  · intro e
    cases l with
    | nil => rfl
    | cons x l =>
      rw [Lib.join_cons] at e
      exact absurd (List.append_eq_nil_iff.1 e).1 (h x (List.mem_cons_self ..))
  · rintro rfl; rfl
theorem join_words (t : List UInt8) (m : Nat → Nat) : Lib.join (wordsL t m) [32] = bodyL t (Lib.join (lets m 4) [32]) := by
  unfold wordsL bodyL
  by_cases hl : lets m 4 = []
  · rw [if_pos (.inr hl), hl]
    simp [Lib.join_one, Lib.join_nil]
  · have hj : ¬ Lib.join (lets m 4) [32] = [] := fun e => hl ((join_nil_iff (lets_ne 4)).1 e)
    rw [if_neg hj]
    by_cases ht : t = [49]
    · rw [if_neg (by simp [ht, hl]), if_pos ht]
    · rw [if_pos (.inl ht), if_neg ht, show t :: lets m 4 = [t] ++ lets m 4 from rfl, join_append (by simp) hl, Lib.join_one]
theorem words_cons (t : List UInt8) (m : Nat → Nat) : ∃ x l, wordsL t m = x :: l := by
  unfold wordsL
  split
  · exact ⟨_, _, rfl⟩
  · rename_i h
    simp only [not_or] at h
    exact List.exists_cons_of_ne_nil h.2
/-- The sign ahead of the first word. -/
def signed (neg : Bool) : List (List UInt8) → List (List UInt8)
  | [] => []
  | x :: l => (if neg then 45 :: x else x) :: l
theorem join_signed (neg : Bool) {l : List (List UInt8)} (h : l ≠ []) : Lib.join (signed neg l) [32] = (if neg then [45] else []) ++ Lib.join l [32] := by
  obtain ⟨x, l, rfl⟩ := List.exists_cons_of_ne_nil h
  cases neg <;> simp [signed, Lib.join_cons]
/-- The words of the first k terms: each term's sign, its fraction's text, its letters. -/
def allW (neg : Nat → Bool) (t : Nat → List UInt8) (m : Nat → Nat → Nat) : Nat → List (List UInt8)
  | 0 => []
  | k + 1 => if k = 0 then signed (neg 0) (wordsL (t 0) (m 0)) else allW neg t m k ++ [if neg k then [45] else [43]] ++ wordsL (t k) (m k)
/-- The text of the first k terms, as it grows. -/
def allS (neg : Nat → Bool) (t : Nat → List UInt8) (m : Nat → Nat → Nat) : Nat → List UInt8
  | 0 => []
  | k + 1 => allS neg t m k ++ (if k = 0 then (if neg k then [45] else []) else (if neg k then [32, 45, 32] else [32, 43, 32])) ++ bodyL (t k) (Lib.join (lets (m k) 4) [32])
theorem allW_ne (neg : Nat → Bool) (t : Nat → List UInt8) (m : Nat → Nat → Nat) {k : Nat} (hk : 0 < k) : allW neg t m k ≠ [] := by
  match k, hk with
  | k + 1, _ =>
    rw [allW]
    obtain ⟨x, l, e⟩ := words_cons (t 0) (m 0)
    split
    · rw [e]; simp [signed]
    · simp
theorem join_all (neg : Nat → Bool) (t : Nat → List UInt8) (m : Nat → Nat → Nat) (k : Nat) : Lib.join (allW neg t m k) [32] = allS neg t m k := by
  induction k with
  | zero => rfl
  | succ k ih =>
    rw [allW, allS]
    by_cases hk : k = 0
    · subst hk
      obtain ⟨x, l, e⟩ := words_cons (t 0) (m 0)
      rw [if_pos rfl, if_pos rfl, join_signed _ (by rw [e]; simp), join_words]
      rfl
    · obtain ⟨x, l, e⟩ := words_cons (t k) (m k)
      rw [if_neg hk, if_neg hk, List.append_assoc, join_append (allW_ne neg t m (by omega)) (by simp), join_append (by simp) (by rw [e]; simp), Lib.join_one, ih, join_words]
      cases neg k <;> simp
end Go.Proofs.YtdamegaedmckbaaGreatDoor
end
section
namespace Go.Proofs.YtdamegaedmckbaaGreatDoor
open Go.RowKit
def letsS (m : Nat → Nat) (k : Nat) : List UInt8 := Lib.join (lets m k) [32]
theorem letsS_zero (m : Nat → Nat) : letsS m 0 = [] := rfl
theorem letsS_skip (m : Nat → Nat) (k : Nat) (h : ¬ 0 < m k) : letsS m (k + 1) = letsS m k := by rw [letsS, lets, if_neg h, List.append_nil]; rfl
theorem letsS_succ (m : Nat → Nat) (k : Nat) (h : 0 < m k) : letsS m (k + 1) = if letsS m k = [] then letterL k (m k) else letsS m k ++ 32 :: letterL k (m k) := by
  rw [letsS, lets, if_pos h]
  by_cases hl : lets m k = []
  · rw [if_pos (by rw [letsS, hl]; rfl), hl, List.nil_append, Lib.join_one]
  · rw [if_neg (show ¬ letsS m k = [] from fun e => hl ((join_nil_iff (lets_ne k)).1 e)), join_append hl (by simp), Lib.join_one]; rfl
end Go.Proofs.YtdamegaedmckbaaGreatDoor
end
section
namespace Go.Proofs.YtdamegaedmckbaaGreatDoor
open Go.RowKit

/-- A sum's three texts, term by term: its sign, its amount, its counts. -/
def pNeg (p : Nat → Tm) (k : Nat) : Bool := (p k).g1
def pTxt (p : Nat → Tm) (k : Nat) : List UInt8 := ftext (val (p k).d1) (val (p k).d2)
def pMon (p : Nat → Tm) (k : Nat) : Nat → Nat := quadN (p k).m0 (p k).m1 (p k).m2 (p k).m3
/-- A sum's text. -/
def stext (p : Nat → Tm) (n : Nat) : List UInt8 := if n = 0 then [48] else allS (pNeg p) (pTxt p) (pMon p) n
def SmallP (p : Nat → Tm) (n : Nat) : Prop := ∀ k, k < n → (p k).n1 ≤ 10000 ∧ (p k).n2 ≤ 10000
theorem SmallP.few {p : Nat → Tm} {n : Nat} (h : SmallP p n) : ∀ k, k < n → (p k).n1 ≤ 1000000 ∧ (p k).n2 ≤ 1000000 := fun k hk => by have := h k hk; omega
theorem ftext_len {w : World} {g1 : Bool} {a1 : Option Addr} {n1 c1 : Nat} {p : Int} {g2 : Bool} {a2 : Option Addr} {n2 c2 : Nat} {q : Int} (h : FracAt w g1 a1 n1 c1 p g2 a2 n2 c2 q) : (ftext p q).length ≤ 9 * n1 + 9 * n2 + 5 := by
  have h1 := itoa_len h.top
  have h2 := itoa_len h.low
  rw [ftext, List.length_append]
  split
  · simp only [List.length_nil]; omega
  · simp only [List.length_cons]; omega
theorem letsS_len (m : Nat → Nat) (hm : ∀ k, k < 4 → m k < 65536) : ∀ k, k ≤ 4 → (letsS m k).length ≤ 8 * k := by
  intro k
  induction k with
  | zero => intro _; rw [letsS_zero]; simp
  | succ k ih =>
    intro hk
    have h1 := ih (by omega)
    by_cases h : 0 < m k
    · have h2 : (letterL k (m k)).length ≤ 7 := by
        have := itoa_small (m k) (hm k (by omega))
        rw [letterL]
        split
        · simp only [List.length_cons]; omega
        · simp
      rw [letsS_succ m k h]
      split
      · omega
      · simp only [List.length_append, List.length_cons]; omega
    · rw [letsS_skip m k h]; omega
theorem bodyL_len (t l : List UInt8) : (bodyL t l).length ≤ t.length + l.length + 1 := by
  unfold bodyL
  split
  · omega
  · split
    · omega
    · simp only [List.length_append, List.length_cons]; omega
end Go.Proofs.YtdamegaedmckbaaGreatDoor
end
