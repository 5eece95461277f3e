/- Plain numbers: a natural number's digits to the base 1000000000, the lowest first. No condition. -/
set_option linter.unusedSimpArgs false
set_option linter.unusedVariables false
namespace Go.Proofs.YtdamegaedmckbaaGreatDoor

def val : List Nat → Nat
  | [] => 0
  | x :: xs => x + 1000000000 * val xs

/-- The digits, none needless. -/
def dg (n : Nat) : List Nat := if n = 0 then [] else n % 1000000000 :: dg (n / 1000000000)
termination_by n
decreasing_by omega

theorem dg_zero : dg 0 = [] := by rw [dg]; simp
theorem dg_pos {n : Nat} (h : 0 < n) : dg n = n % 1000000000 :: dg (n / 1000000000) := by rw [dg, if_neg (by omega)]

theorem val_dg (n : Nat) : val (dg n) = n := by
  induction n using Nat.strongRecOn with
  | _ n ih =>
    rcases Nat.eq_zero_or_pos n with rfl | h
    · rw [dg_zero]; rfl
    · rw [dg_pos h, val, ih _ (by omega)]; omega

theorem dg_lt (n : Nat) : ∀ x ∈ dg n, x < 1000000000 := by
  induction n using Nat.strongRecOn with
  | _ n ih =>
    rcases Nat.eq_zero_or_pos n with rfl | h
    · rw [dg_zero]; intro x hx; cases hx
    · rw [dg_pos h]
      intro x hx
      rcases List.mem_cons.1 hx with rfl | hx
      · omega
      · exact ih _ (by omega) x hx

/-- Digits that may stand: each below the base, the last one not 0. -/
def Canon (d : List Nat) : Prop := (∀ x ∈ d, x < 1000000000) ∧ (d = [] ∨ d.getLast? ≠ some 0)

theorem Canon.tail {x : Nat} {d : List Nat} (h : Canon (x :: d)) : Canon d := by
  refine ⟨fun y hy => h.1 y (List.mem_cons_of_mem _ hy), ?_⟩
  cases d with
  | nil => exact .inl rfl
  | cons y d =>
    right
    rcases h.2 with h2 | h2
    · cases h2
    · simpa [List.getLast?_cons_cons] using h2

theorem val_pos_of_canon {d : List Nat} (h : Canon d) (hne : d ≠ []) : 0 < val d := by
  induction d with
  | nil => exact absurd rfl hne
  | cons x d ih =>
    rw [val]
    cases d with
    | nil =>
      have h2 := h.2
      simp at h2
      omega
    | cons y d =>
      have := ih h.tail (by simp)
      omega

theorem dg_of_canon {d : List Nat} (h : Canon d) : dg (val d) = d := by
  induction d with
  | nil => rw [val, dg_zero]
  | cons x d ih =>
    have hx := h.1 x (List.mem_cons_self ..)
    have hp := val_pos_of_canon h (by simp)
    rw [dg_pos hp, val]
    have h1 : (x + 1000000000 * val d) % 1000000000 = x := by omega
    have h2 : (x + 1000000000 * val d) / 1000000000 = val d := by omega
    rw [h1, h2, ih h.tail]

theorem canon_dg (n : Nat) : Canon (dg n) := by
  refine ⟨dg_lt n, ?_⟩
  induction n using Nat.strongRecOn with
  | _ n ih =>
    rcases Nat.eq_zero_or_pos n with rfl | h
    · exact .inl dg_zero
    · right
      rw [dg_pos h]
      rcases ih (n / 1000000000) (by omega) with h2 | h2
      · rw [h2]
        have : n / 1000000000 = 0 := by have := val_dg (n / 1000000000); rw [h2] at this; simpa [val] using this.symm
        simp
        omega
      · cases hd : dg (n / 1000000000) with
        | nil =>
          have : n / 1000000000 = 0 := by have := val_dg (n / 1000000000); rw [hd] at this; simpa [val] using this.symm
          simp
          omega
        | cons y d => rw [hd] at h2; simpa [List.getLast?_cons_cons] using h2

theorem val_append (a b : List Nat) : val (a ++ b) = val a + 1000000000 ^ a.length * val b := by
  induction a with
  | nil => simp [val]
  | cons x a ih =>
    simp only [List.cons_append, val, ih, List.length_cons, Nat.pow_succ]
    rw [Nat.mul_add, Nat.mul_comm (1000000000 ^ a.length) 1000000000, Nat.mul_assoc]
    omega

theorem val_lt (d : List Nat) (h : ∀ x ∈ d, x < 1000000000) : val d < 1000000000 ^ d.length := by
  induction d with
  | nil => simp [val]
  | cons x d ih =>
    have h1 := ih (fun y hy => h y (List.mem_cons_of_mem _ hy))
    have hx := h x (List.mem_cons_self ..)
    simp only [val, List.length_cons, Nat.pow_succ]
    omega

theorem val_split (d : List Nat) (i : Nat) (hi : i ≤ d.length) : val d = val (d.take i) + 1000000000 ^ i * val (d.drop i) := by
  conv => lhs; rw [← List.take_append_drop i d]
  rw [val_append, List.length_take, Nat.min_eq_left hi]

theorem val_take_succ (d : List Nat) (i : Nat) (hi : i < d.length) : val (d.take (i + 1)) = val (d.take i) + 1000000000 ^ i * d.getD i 0 := by
  rw [List.take_succ_eq_append_getElem hi, val_append, List.length_take, Nat.min_eq_left (by omega)]
  simp [val, List.getD, List.getElem?_eq_getElem hi]

theorem val_zeros (d : List Nat) (h : ∀ x ∈ d, x = 0) : val d = 0 := by
  induction d with
  | nil => rfl
  | cons x d ih => rw [val, h x (List.mem_cons_self ..), ih (fun y hy => h y (List.mem_cons_of_mem _ hy))]

/-- What is left when needless digits are cut off. -/
theorem take_eq_dg (d : List Nat) (n : Nat) (hn : n ≤ d.length) (hlt : ∀ x ∈ d, x < 1000000000) (hz : ∀ i, n ≤ i → d.getD i 0 = 0) (hl : n = 0 ∨ d.getD (n - 1) 0 ≠ 0) : d.take n = dg (val d) := by
  have hv : val d = val (d.take n) := by
    rw [val_split d n hn, val_zeros (d.drop n), Nat.mul_zero, Nat.add_zero]
    intro x hx
    obtain ⟨i, hi, rfl⟩ := List.getElem_of_mem hx
    have := hz (n + i) (by omega)
    rw [List.getElem_drop]
    simp only [List.length_drop] at hi
    simpa [List.getD, List.getElem?_eq_getElem (show n + i < d.length by omega)] using this
  rw [hv, dg_of_canon]
  refine ⟨fun x hx => hlt x (List.mem_of_mem_take hx), ?_⟩
  rcases Nat.eq_zero_or_pos n with rfl | h
  · exact .inl (by simp)
  · right
    have h2 := hl.resolve_left (by omega)
    rw [List.getLast?_take, if_neg (by omega)]
    simp only [List.getD] at h2
    rw [List.getElem?_eq_getElem (by omega)] at h2 ⊢
    simpa using h2

theorem dg_length_mono {a b : Nat} (h : a ≤ b) : (dg a).length ≤ (dg b).length := by
  rcases Nat.lt_or_ge (dg b).length (dg a).length with h1 | h1
  · exfalso
    have hb := val_lt (dg b) (dg_lt b)
    rw [val_dg] at hb
    have hne : dg a ≠ [] := by intro e; rw [e] at h1; simp at h1
    have hlast := (canon_dg a).2.resolve_left hne
    have hs : val (dg a) = a := val_dg a
    rw [← List.dropLast_concat_getLast hne, val_append, List.length_dropLast] at hs
    rw [List.getLast?_eq_some_getLast hne] at hlast
    have hpos : 1 ≤ val [(dg a).getLast hne] := by simp at hlast; simp [val]; omega
    have hp : 1000000000 ^ (dg b).length ≤ 1000000000 ^ ((dg a).length - 1) := Nat.pow_le_pow_right (by omega) (by omega)
    have := Nat.le_mul_of_pos_right (1000000000 ^ ((dg a).length - 1)) hpos
    omega
  · exact h1

/-- As many digits as asked, the lowest first. -/
def fx : Nat → Nat → List Nat
  | 0, _ => []
  | m + 1, N => N % 1000000000 :: fx m (N / 1000000000)

theorem fx_length (m N : Nat) : (fx m N).length = m := by
  induction m generalizing N with
  | zero => rfl
  | succ m ih => simp [fx, ih]

theorem fx_lt (m N : Nat) : ∀ x ∈ fx m N, x < 1000000000 := by
  induction m generalizing N with
  | zero => intro x hx; cases hx
  | succ m ih =>
    intro x hx
    rcases List.mem_cons.1 hx with rfl | hx
    · omega
    · exact ih _ x hx

theorem val_fx (m N : Nat) (h : N < 1000000000 ^ m) : val (fx m N) = N := by
  induction m generalizing N with
  | zero => simp at h; simp [fx, val, h]
  | succ m ih =>
    rw [fx, val, ih (N / 1000000000) (by rw [Nat.pow_succ] at h; exact Nat.div_lt_of_lt_mul (by rw [Nat.mul_comm]; exact h))]
    omega

theorem fx_snoc (m N : Nat) : fx (m + 1) N = fx m N ++ [N / 1000000000 ^ m % 1000000000] := by
  induction m generalizing N with
  | zero => simp [fx]
  | succ m ih =>
    rw [fx, ih, fx]
    simp only [List.cons_append, List.cons.injEq, true_and]
    rw [Nat.div_div_eq_div_mul, Nat.pow_succ, Nat.mul_comm (1000000000 ^ m)]

theorem fx_mod (m N : Nat) : fx m (N % 1000000000 ^ m) = fx m N := by
  induction m generalizing N with
  | zero => rfl
  | succ m ih =>
    rw [fx, fx, Nat.pow_succ]
    have h1 : N % (1000000000 ^ m * 1000000000) % 1000000000 = N % 1000000000 := Nat.mod_mod_of_dvd _ ⟨1000000000 ^ m, Nat.mul_comm _ _⟩
    have h2 : N % (1000000000 ^ m * 1000000000) / 1000000000 = N / 1000000000 % 1000000000 ^ m := by
      rw [Nat.mul_comm, Nat.mod_mul_right_div_self]
    rw [h1, h2, ih]

/-- The order of two numbers. -/
def cmpN (x y : Nat) : Int := if x < y then -1 else if x = y then 0 else 1

theorem cmp_top {a b : List Nat} {i : Nat} (hl : a.length = b.length) (hi : i < a.length) (ha : ∀ x ∈ a, x < 1000000000) (hd : a.drop (i + 1) = b.drop (i + 1)) (hlt : a.getD i 0 < b.getD i 0) : val a < val b := by
  rw [val_split a (i + 1) (by omega), val_split b (i + 1) (by omega), hd, val_take_succ a i hi, val_take_succ b i (by omega)]
  have h1 := val_lt (a.take i) (fun x hx => ha x (List.mem_of_mem_take hx))
  rw [List.length_take, Nat.min_eq_left (by omega)] at h1
  have h2 : 1000000000 ^ i * (a.getD i 0 + 1) ≤ 1000000000 ^ i * b.getD i 0 := Nat.mul_le_mul_left _ hlt
  rw [Nat.mul_add] at h2
  omega
end Go.Proofs.YtdamegaedmckbaaGreatDoor
