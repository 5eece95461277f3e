/- A sum's text, as a list of words, and as it grows term by term. No program. -/
import Derived.Test.YtdamegaedmckbaaGreatDoorS24
import Derived.Lib.Join
set_option linter.unusedSimpArgs false
set_option linter.unusedVariables false
namespace Go.Proofs.YtdamegaedmckbaaGreatDoor

theorem joinTail_append (sep : List UInt8) (l m : List (List UInt8)) : Lib.joinTail sep (l ++ m) = Lib.joinTail sep l ++ Lib.joinTail sep m := by
  simp [Lib.joinTail]

theorem join_append {l m : List (List UInt8)} (hl : l ≠ []) (hm : m ≠ []) : Lib.join (l ++ m) [32] = Lib.join l [32] ++ 32 :: Lib.join m [32] := by
  obtain ⟨x, l, rfl⟩ := List.exists_cons_of_ne_nil hl
  obtain ⟨y, m, rfl⟩ := List.exists_cons_of_ne_nil hm
  rw [List.cons_append, Lib.join_cons, joinTail_append, Lib.join_cons, Lib.join_cons, List.append_assoc]
  simp [Lib.joinTail]

/-- A term's text behind its sign: its fraction's text t, its letters' text l. -/
def bodyL (t l : List UInt8) : List UInt8 := if l = [] then t else if t = [49] then l else t ++ 32 :: l

theorem letterL_ne (i n : Nat) : letterL i n ≠ [] := by simp [letterL]

theorem lets_ne {m : Nat → Nat} (k : Nat) : ∀ x ∈ lets m k, x ≠ [] := by
  induction k with
  | zero => intro x hx; cases hx
  | succ k ih =>
    intro x hx
    rw [lets, List.mem_append] at hx
    rcases hx with hx | hx
    · exact ih x hx
    · split at hx
      · rw [List.mem_singleton] at hx; rw [hx]; exact letterL_ne _ _
      · cases hx

theorem join_nil_iff {l : List (List UInt8)} (h : ∀ x ∈ l, x ≠ []) : Lib.join l [32] = [] ↔ l = [] := by
  constructor
  · intro e
    cases l with
    | nil => rfl
    | cons x l =>
      rw [Lib.join_cons] at e
      exact absurd (List.append_eq_nil_iff.1 e).1 (h x (List.mem_cons_self ..))
  · rintro rfl; rfl

theorem join_words (t : List UInt8) (m : Nat → Nat) : Lib.join (wordsL t m) [32] = bodyL t (Lib.join (lets m 4) [32]) := by
  unfold wordsL bodyL
  by_cases hl : lets m 4 = []
  · rw [if_pos (.inr hl), hl]
    simp [Lib.join_one, Lib.join_nil]
  · have hj : ¬ Lib.join (lets m 4) [32] = [] := fun e => hl ((join_nil_iff (lets_ne 4)).1 e)
    rw [if_neg hj]
    by_cases ht : t = [49]
    · rw [if_neg (by simp [ht, hl]), if_pos ht]
    · rw [if_pos (.inl ht), if_neg ht, show t :: lets m 4 = [t] ++ lets m 4 from rfl, join_append (by simp) hl, Lib.join_one]

theorem words_cons (t : List UInt8) (m : Nat → Nat) : ∃ x l, wordsL t m = x :: l := by
  unfold wordsL
  split
  · exact ⟨_, _, rfl⟩
  · rename_i h
    simp only [not_or] at h
    exact List.exists_cons_of_ne_nil h.2

/-- The sign ahead of the first word. -/
def signed (neg : Bool) : List (List UInt8) → List (List UInt8)
  | [] => []
  | x :: l => (if neg then 45 :: x else x) :: l

theorem join_signed (neg : Bool) {l : List (List UInt8)} (h : l ≠ []) : Lib.join (signed neg l) [32] = (if neg then [45] else []) ++ Lib.join l [32] := by
  obtain ⟨x, l, rfl⟩ := List.exists_cons_of_ne_nil h
  cases neg <;> simp [signed, Lib.join_cons]

/-- The words of the first k terms: each term's sign, its fraction's text, its letters. -/
def allW (neg : Nat → Bool) (t : Nat → List UInt8) (m : Nat → Nat → Nat) : Nat → List (List UInt8)
  | 0 => []
  | k + 1 => if k = 0 then signed (neg 0) (wordsL (t 0) (m 0)) else allW neg t m k ++ [if neg k then [45] else [43]] ++ wordsL (t k) (m k)

/-- The text of the first k terms, as it grows. -/
def allS (neg : Nat → Bool) (t : Nat → List UInt8) (m : Nat → Nat → Nat) : Nat → List UInt8
  | 0 => []
  | k + 1 => allS neg t m k ++ (if k = 0 then (if neg k then [45] else []) else (if neg k then [32, 45, 32] else [32, 43, 32])) ++ bodyL (t k) (Lib.join (lets (m k) 4) [32])

theorem allW_ne (neg : Nat → Bool) (t : Nat → List UInt8) (m : Nat → Nat → Nat) {k : Nat} (hk : 0 < k) : allW neg t m k ≠ [] := by
  match k, hk with
  | k + 1, _ =>
    rw [allW]
    obtain ⟨x, l, e⟩ := words_cons (t 0) (m 0)
    split
    · rw [e]; simp [signed]
    · simp

theorem join_all (neg : Nat → Bool) (t : Nat → List UInt8) (m : Nat → Nat → Nat) (k : Nat) : Lib.join (allW neg t m k) [32] = allS neg t m k := by
  induction k with
  | zero => rfl
  | succ k ih =>
    rw [allW, allS]
    by_cases hk : k = 0
    · subst hk
      obtain ⟨x, l, e⟩ := words_cons (t 0) (m 0)
      rw [if_pos rfl, if_pos rfl, join_signed _ (by rw [e]; simp), join_words]
      rfl
    · obtain ⟨x, l, e⟩ := words_cons (t k) (m k)
      rw [if_neg hk, if_neg hk, List.append_assoc, join_append (allW_ne neg t m (by omega)) (by simp), join_append (by simp) (by rw [e]; simp), Lib.join_one, ih, join_words]
      cases neg k <;> simp

theorem allS_ne (neg : Nat → Bool) (t : Nat → List UInt8) (m : Nat → Nat → Nat) (ht : ∀ k, t k ≠ []) {k : Nat} (hk : 0 < k) : allS neg t m k ≠ [] := by
  match k, hk with
  | k + 1, _ =>
    rw [allS]
    intro e
    have h1 := (List.append_eq_nil_iff.1 e).2
    unfold bodyL at h1
    split at h1
    · exact ht _ h1
    · split at h1
      · rename_i h _; exact h h1
      · simp at h1
end Go.Proofs.YtdamegaedmckbaaGreatDoor
