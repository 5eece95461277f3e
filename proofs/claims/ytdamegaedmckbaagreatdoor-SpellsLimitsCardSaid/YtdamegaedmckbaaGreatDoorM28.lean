/- Plain: a sum that is written is read as it, whichever blanks stand between its words. No condition. -/
import Derived.Test.YtdamegaedmckbaaGreatDoorM27
set_option linter.unusedSimpArgs false
set_option linter.unusedVariables false
section
namespace Go.Proofs.YtdamegaedmckbaaGreatDoor
open Go.RowKit

/-- How often each letter stands in a product of this key. -/
def expo (k : Nat) : Nat → Nat := quadN (k / 281474976710656) (k / 4294967296 % 65536) (k / 65536 % 65536) (k % 65536)
theorem key_expo (k : Nat) : key4 (expo k 0) (expo k 1) (expo k 2) (expo k 3) = k := by
  unfold key4 expo
  simp only [quadN]
  omega
theorem expo_key {a b c d : Nat} (hb : b < 65536) (hc : c < 65536) (hd : d < 65536) : expo (key4 a b c d) = quadN a b c d := by
  unfold expo
  congr 1 <;> (unfold key4; omega)
/-- The letters of a product, as factors. -/
def letF (m : Nat → Nat) : Nat → List Fa
  | 0 => []
  | k + 1 => letF m k ++ (if 0 < m k then [.le k (m k)] else [])
theorem letF_text (m : Nat → Nat) (k : Nat) : (letF m k).map Fa.text = lets m k := by
  induction k with
  | zero => rfl
  | succ k ih =>
    rw [letF, lets, List.map_append, ih]
    split <;> rfl
theorem letF_effC (m : Nat → Nat) (k : Nat) (c : PC) : effsC (letF m k) c = c := by
  induction k with
  | zero => rfl
  | succ k ih =>
    unfold effsC at ih ⊢
    rw [letF, List.foldl_append, ih]
    split <;> rfl
theorem letF_from (m o : Nat → Nat) (k : Nat) : ∀ j, effsO (letF m k) o j = o j + (if j < k then m j else 0) := by
  induction k with
  | zero => intro j; rw [if_neg (by omega)]; rfl
  | succ k ih =>
    intro j
    have e : effsO (letF m (k + 1)) o = effsO (if 0 < m k then [.le k (m k)] else []) (effsO (letF m k) o) := by
      unfold effsO; rw [letF, List.foldl_append]
    rw [e]
    by_cases h : 0 < m k
    · rw [if_pos h]
      show bump (effsO (letF m k) o) k (m k) j = _
      unfold bump
      by_cases hj : j = k
      · subst hj
        rw [if_pos rfl, ih j, if_neg (by omega), if_pos (by omega)]; omega
      · rw [if_neg hj, ih j]
        by_cases h1 : j < k
        · rw [if_pos h1, if_pos (by omega)]
        · rw [if_neg h1, if_neg (by omega)]
    · rw [if_neg h]
      show effsO (letF m k) o j = _
      rw [ih j]
      by_cases h1 : j < k
      · rw [if_pos h1, if_pos (by omega)]
      · rw [if_neg h1]
        by_cases h2 : j < k + 1
        · obtain rfl : j = k := by omega
          rw [if_pos h2]; omega
        · rw [if_neg h2]
theorem letF_ok {m : Nat → Nat} (hm : ∀ i, i < 4 → m i ≤ 1000) : ∀ k, k ≤ 4 → ∀ f ∈ letF m k, f.ok := by
  intro k
  induction k with
  | zero => intro _ f hf; cases hf
  | succ k ih =>
    intro hk f hf
    rw [letF, List.mem_append] at hf
    rcases hf with hf | hf
    · exact ih (by omega) f hf
    · split at hf
      · next h =>
        simp only [List.mem_singleton] at hf
        subst hf
        exact ⟨by omega, by omega, hm k (by omega)⟩
      · cases hf
/-- A term that can be written, and read. -/
structure FineT (x : PT) : Prop where
  c : CW x.2
  nz : x.2.1 ≠ 0
  top : (Lib.decDigits x.2.1.natAbs).length ≤ 200
  low : (Lib.decDigits x.2.2.natAbs).length ≤ 200
  pow : ∀ i, i < 4 → expo x.1 i ≤ 1000
/-- A term's factors, as they are written. -/
def facs (x : PT) : List Fa :=
  if (Fa.nu x.2.1.natAbs x.2.2.natAbs).text ≠ [49] ∨ lets (expo x.1) 4 = [] then .nu x.2.1.natAbs x.2.2.natAbs :: letF (expo x.1) 4 else letF (expo x.1) 4
theorem facs_text (x : PT) : (facs x).map Fa.text = wordsL (ftext (x.2.1.natAbs : Int) (x.2.2.natAbs : Int)) (expo x.1) := by
  unfold facs wordsL
  by_cases h : (Fa.nu x.2.1.natAbs x.2.2.natAbs).text ≠ [49] ∨ lets (expo x.1) 4 = []
  · have h' : ftext (x.2.1.natAbs : Int) (x.2.2.natAbs : Int) ≠ [49] ∨ lets (expo x.1) 4 = [] := h
    rw [if_pos h, if_pos h', List.map_cons, letF_text]; rfl
  · have h' : ¬ (ftext (x.2.1.natAbs : Int) (x.2.2.natAbs : Int) ≠ [49] ∨ lets (expo x.1) 4 = []) := h
    rw [if_neg h, if_neg h', letF_text]
theorem facs_ne (x : PT) : facs x ≠ [] := by
  intro e
  have h := facs_text x
  rw [e] at h
  obtain ⟨y, l, e⟩ := words_cons (ftext (x.2.1.natAbs : Int) (x.2.2.natAbs : Int)) (expo x.1)
  rw [e] at h
  cases h
theorem facs_ok {x : PT} (hx : FineT x) : ∀ f ∈ facs x, f.ok := by
  have h1 := letF_ok hx.pow 4 (by omega)
  have h2 : (Fa.nu x.2.1.natAbs x.2.2.natAbs).ok := ⟨by have := hx.c.pos; omega, hx.c.red, hx.top, hx.low⟩
  unfold facs
  split
  · intro f hf
    rcases List.mem_cons.1 hf with rfl | hf
    · exact h2
    · exact h1 f hf
  · exact h1
theorem ftext_one {p q : Nat} (h : ftext p q = [49]) : p = 1 ∧ q = 1 := by
  unfold ftext at h
  rw [itoa_nat, itoa_nat] at h
  by_cases hq : (q : Int) = 1
  · rw [if_pos hq, List.append_nil] at h
    have := (dec_read p).2
    rw [h, show numN [49] = 1 by decide] at this
    omega
  · rw [if_neg hq] at h
    obtain ⟨b, r, hd, _⟩ := dec_cons p
    rw [hd] at h
    have := congrArg List.length h
    simp at this
theorem mulC_sign {p q : Nat} (hq : 0 < q) (hg : Nat.gcd p q = 1) (neg : Bool) : mulC ((if neg then -1 else 1, 1) : PC) (p, q) = (if neg then -(p : Int) else p, (q : Int)) := by
  unfold mulC
  cases neg
  · simp only [Bool.false_eq_true, if_false, Int.one_mul]
    have : Int.gcd (p : Int) (q : Int) = 1 := by simpa [Int.gcd] using hg
    rw [lowP_of this, lowQ_of this]
  · simp only [if_true, Int.one_mul]
    have e : (-1 : Int) * (p : Int) = -(p : Int) := by omega
    have : Int.gcd (-(p : Int)) (q : Int) = 1 := by simpa [Int.gcd] using hg
    rw [e, lowP_of this, lowQ_of this]
/-- A term with this sign. -/
def sg (neg : Bool) (x : PT) : PT := (x.1, (if neg then -(x.2.1.natAbs : Int) else x.2.1.natAbs), x.2.2)
def sgB (x : PT) : Bool := decide (x.2.1 < 0)
theorem sg_self (x : PT) : sg (sgB x) x = x := by
  obtain ⟨k, p, q⟩ := x
  unfold sg sgB
  simp only
  by_cases h : p < 0
  · rw [decide_eq_true h, if_pos rfl]; congr 2; omega
  · rw [decide_eq_false h, if_neg (by decide)]; congr 2; omega
theorem facs_effC {x : PT} (hx : FineT x) (neg : Bool) : effsC (facs x) (if neg then -1 else 1, 1) = (sg neg x).2 := by
  have hq := hx.c.pos
  have h1 : effsC (.nu x.2.1.natAbs x.2.2.natAbs :: letF (expo x.1) 4) (if neg then -1 else 1, 1) = (sg neg x).2 := by
    have : effsC (.nu x.2.1.natAbs x.2.2.natAbs :: letF (expo x.1) 4) (if neg then -1 else 1, 1) = effsC (letF (expo x.1) 4) (mulC ((if neg then -1 else 1, 1) : PC) ((x.2.1.natAbs : Nat), (x.2.2.natAbs : Nat))) := rfl
    rw [this, letF_effC, mulC_sign (by omega) hx.c.red]
    unfold sg
    simp only
    congr 1
    omega
  unfold facs
  split
  · exact h1
  · next h =>
    simp only [not_or, ne_eq, Decidable.not_not] at h
    obtain ⟨e1, e2⟩ := ftext_one h.1
    rw [letF_effC]
    unfold sg
    simp only
    rw [e1, show x.2.2 = 1 by omega]
    cases neg <;> rfl
theorem facs_from (x : PT) (o : Nat → Nat) : ∀ j, effsO (facs x) o j = o j + (if j < 4 then expo x.1 j else 0) := by
  unfold facs
  split
  · exact letF_from (expo x.1) o 4
  · exact letF_from (expo x.1) o 4
theorem facs_effO (x : PT) : ∀ j, effsO (facs x) (fun _ => 0) j = if j < 4 then expo x.1 j else 0 := fun j => by
  rw [facs_from, Nat.zero_add]
theorem facs_key {x : PT} (hx : FineT x) : keyO (effsO (facs x) fun _ => 0) = x.1 ∧ over (effsO (facs x) fun _ => 0) = false := by
  have h0 := facs_effO x 0
  have h1 := facs_effO x 1
  have h2 := facs_effO x 2
  have h3 := facs_effO x 3
  rw [if_pos (by omega)] at h0 h1 h2 h3
  have k0 := hx.pow 0 (by omega)
  have k1 := hx.pow 1 (by omega)
  have k2 := hx.pow 2 (by omega)
  have k3 := hx.pow 3 (by omega)
  unfold keyO over clamp
  rw [h0, h1, h2, h3, Nat.min_eq_left (by omega), Nat.min_eq_left (by omega), Nat.min_eq_left (by omega), Nat.min_eq_left (by omega)]
  refine ⟨key_expo x.1, ?_⟩
  simp only [Bool.or_eq_false_iff, decide_eq_false_iff_not]
  omega
/-! A term's text, its words with s between. -/

theorem join_cons2 {x : List UInt8} {r : List (List UInt8)} (hr : r ≠ []) (s : List UInt8) : Lib.join (x :: r) s = x ++ (s ++ Lib.join r s) := by
  obtain ⟨y, r, rfl⟩ := List.exists_cons_of_ne_nil hr
  rw [Lib.join_cons, Lib.join_cons]
  simp [Lib.joinTail, List.append_assoc]
def bodyW (s : List UInt8) (x : PT) : List UInt8 := Lib.join ((facs x).map Fa.text) s
theorem join_snoc (l : List Fa) (f : Fa) (s : List UInt8) : Lib.join ((l ++ [f]).map Fa.text) s = sepT (l.map fun g => (g, s)) ++ f.text := by
  induction l with
  | nil => simp [Lib.join_one, sepT]
  | cons x l ih =>
    rw [List.cons_append, List.map_cons, join_cons2 (by simp), ih]
    simp [sepT, List.append_assoc]
theorem body_read {x : PT} (hx : FineT x) {s b e R : List UInt8} (hs : Sep s) (hb : Bl b) (he : Bl e) (hR : EndR R) (many neg : Bool) :
    rdTerm (b ++ (bodyW s x ++ (e ++ R))) many neg = some ([sg neg x], R, many) := by
  obtain ⟨l, f, hl⟩ : ∃ l f, facs x = l ++ [f] := ⟨_, _, (List.dropLast_concat_getLast (facs_ne x)).symm⟩
  have hok := facs_ok hx
  have h := rdTerm_facs (l.map fun g => (g, s)) f b e R (fun y hy => by
    obtain ⟨g, hg, rfl⟩ := List.mem_map.1 hy
    exact ⟨hok g (by rw [hl]; simp [hg]), hs⟩) (hok f (by rw [hl]; simp)) hb he hR many neg
  have e1 : (l.map fun g => (g, s)).map (·.1) ++ [f] = facs x := by rw [hl, List.map_map]; congr 1; exact List.map_id' l
  rw [e1, facs_effC hx, (facs_key hx).1, (facs_key hx).2, Bool.or_false] at h
  have e2 : bodyW s x = sepT (l.map fun g => (g, s)) ++ f.text := by unfold bodyW; rw [hl, join_snoc]
  rw [e2, List.append_assoc, h]
  have : ¬ (sg neg x).2.1 = 0 := by
    have := hx.nz
    unfold sg
    simp only
    split <;> omega
  unfold oneT
  rw [if_neg this]
  rfl
theorem body_starts {x : PT} (hx : FineT x) (s X : List UInt8) : startsL (bodyW s x ++ X) = true := by
  obtain ⟨f, l, hl⟩ := List.exists_cons_of_ne_nil (facs_ne x)
  have hf := facs_ok hx f (by rw [hl]; simp)
  unfold bodyW
  rw [hl, List.map_cons, Lib.join_cons, List.append_assoc]
  exact fac_starts hf _
/-! Sums. -/

def sgC (neg : Bool) : UInt8 := if neg then 45 else 43
/-- The terms behind the first one: s between the words, x.1 on either side of a sign. -/
def tailG (s : List UInt8) (xs : List (List UInt8 × PT)) : List UInt8 := (xs.map fun x => x.1 ++ (sgC (sgB x.2) :: (x.1 ++ bodyW s x.2))).flatten
def tailW (s b : List UInt8) (xs : List PT) : List UInt8 := tailG s (xs.map fun x => (b, x))
def sumW (s b : List UInt8) : List PT → List UInt8
  | [] => [48]
  | x :: xs => (if sgB x then [45] else []) ++ (bodyW s x ++ tailW s b xs)
/-- The same, with e behind, without the blanks ahead. -/
def tailR (s e : List UInt8) : List (List UInt8 × PT) → List UInt8
  | [] => []
  | x :: xs => sgC (sgB x.2) :: (x.1 ++ (bodyW s x.2 ++ (tailG s xs ++ e)))
theorem tail_split {s e : List UInt8} (he : Bl e) (xs : List (List UInt8 × PT)) (hb : ∀ x ∈ xs, Bl x.1) : ∃ b', Bl b' ∧ tailG s xs ++ e = b' ++ tailR s e xs := by
  cases xs with
  | nil => exact ⟨e, he, by simp [tailG, tailR]⟩
  | cons x xs => exact ⟨x.1, hb x (by simp), by simp [tailG, tailR]⟩
theorem tailR_end (s e : List UInt8) (xs : List (List UInt8 × PT)) : EndR (tailR s e xs) := by
  cases xs with
  | nil => exact EndR.nil
  | cons x xs => exact EndR.cons (by unfold sgC; split <;> simp) _
theorem more_read {s e : List UInt8} (hs : Sep s) (he : Bl e) (xs : List (List UInt8 × PT)) (hx : ∀ x ∈ xs, Bl x.1 ∧ FineT x.2) (p : List PT) (many : Bool) :
    rdMore p (tailR s e xs) many = some (xs.foldl (fun p x => addL p [x.2]) p, many) := by
  induction xs generalizing p with
  | nil => rw [tailR, rdMore]; rfl
  | cons x xs ih =>
    obtain ⟨b', hb', e'⟩ := tail_split (s := s) he xs (fun y hy => (hx y (by simp [hy])).1)
    have h := body_read (hx x (by simp)).2 hs (hx x (by simp)).1 hb' (tailR_end s e xs) many (sgB x.2)
    rw [tailR, rdMore, e']
    have h45 : decide (sgC (sgB x.2) = 45) = sgB x.2 := by cases sgB x.2 <;> decide
    rw [if_pos (by unfold sgC; split <;> simp)]
    split
    · next hn => rw [h45, h] at hn; cases hn
    · next l r m hn =>
      rw [h45, h] at hn
      simp only [Option.some.injEq, Prod.mk.injEq] at hn
      obtain ⟨rfl, rfl, rfl⟩ := hn
      rw [sg_self, ih (fun y hy => hx y (by simp [hy]))]
      rfl
theorem sum_first {x : PT} (hx : FineT x) {s b0 X : List UInt8} (hb0 : Bl b0) : rdSum (b0 ++ ((if sgB x then [45] else []) ++ (bodyW s x ++ X))) = match rdTerm (bodyW s x ++ X) false (sgB x) with
    | none => none
    | some (l, r, m) => rdMore l r m := by
  have hst := body_starts hx s X
  unfold rdSum
  rw [skp_app hb0]
  cases hs : sgB x
  · simp only [Bool.false_eq_true, if_false, List.nil_append]
    rw [skp_starts hst, starts_not hst (.inr rfl)]
    simp only [Bool.false_eq_true, if_false]
    rfl
  · simp only [if_true]
    rw [skp_of (X := [45] ++ (bodyW s x ++ X)) (fun b hb => by cases hb; decide)]
    rw [show headIs ([45] ++ (bodyW s x ++ X)) 45 = true from rfl]
    simp only [if_true]
    rfl
theorem addL_snoc {p : List PT} {x : PT} (h : ∀ t ∈ p, x.1 < t.1) : addL p [x] = p ++ [x] := by
  induction p with
  | nil => rw [addL]; rfl
  | cons t p ih =>
    rw [addL, if_pos (h t (by simp)), ih (fun t' h' => h t' (by simp [h']))]
    rfl
theorem foldl_add {p xs : List PT} (h : Falls (p ++ xs)) : xs.foldl (fun p x => addL p [x]) p = p ++ xs := by
  induction xs generalizing p with
  | nil => simp
  | cons x xs ih =>
    have h1 : ∀ t ∈ p, x.1 < t.1 := fun t ht => (List.pairwise_append.1 h).2.2 t ht x (by simp)
    rw [List.foldl_cons, addL_snoc h1, ih (by simpa using h)]
    simp
theorem zero_sum {b0 e : List UInt8} (hb0 : Bl b0) (he : Bl e) : rdSum (b0 ++ ([48] ++ e)) = some ([], false) := by
  have hf : (Fa.nu 0 1).ok := ⟨by omega, rfl, by rw [Lib.decDigits]; simp, by rw [Lib.decDigits]; simp⟩
  have ht : (Fa.nu 0 1).text = [48] := by
    show ftext ((0 : Nat) : Int) ((1 : Nat) : Int) = [48]
    unfold ftext
    rw [itoa_nat, if_pos (by rfl), Lib.decDigits]
    rfl
  have h := rdTerm_facs [] (Fa.nu 0 1) [] e [] (fun x hx => by cases hx) hf rfl he EndR.nil false false
  rw [ht] at h
  simp only [sepT, List.map_nil, List.flatten_nil, List.nil_append, List.append_nil, Bool.false_eq_true, if_false, Bool.false_or] at h
  have hst : startsL ([48] ++ e) = true := rfl
  unfold rdSum
  rw [skp_app hb0, skp_starts hst, starts_not hst (.inr rfl)]
  simp only [Bool.false_eq_true, if_false]
  rw [h]
  have e1 : oneT (keyO (effsO [Fa.nu 0 1] fun _ => 0)) (effsC [Fa.nu 0 1] (1, 1)) = [] := by
    unfold oneT
    rw [if_pos (by decide)]
  have e2 : over (effsO [Fa.nu 0 1] fun _ => 0) = false := by decide
  rw [e1, e2]
  simp only
  rw [rdMore]
/-- A first term, and more behind it, each with its sign. -/
theorem first_read {x : PT} {xs : List (List UInt8 × PT)} (hx : FineT x) (hxs : ∀ y ∈ xs, Bl y.1 ∧ FineT y.2) {s b0 e : List UInt8} (hs : Sep s) (hb0 : Bl b0) (he : Bl e) :
    rdSum (b0 ++ ((if sgB x then [45] else []) ++ (bodyW s x ++ (tailG s xs ++ e)))) = some (xs.foldl (fun p y => addL p [y.2]) [x], false) := by
  obtain ⟨b', hb', e'⟩ := tail_split (s := s) he xs (fun y hy => (hxs y hy).1)
  have h := body_read (s := s) (b := []) hx hs rfl hb' (tailR_end s e xs) false (sgB x)
  rw [List.nil_append, ← e'] at h
  rw [sum_first hx hb0, h]
  simp only
  rw [more_read hs he xs hxs, sg_self]
/-- A sum's text, with blanks of any kind between its words, is read as it. -/
theorem sum_read {l : List PT} (hl : Falls l) (hx : ∀ x ∈ l, FineT x) {s b b0 e : List UInt8} (hs : Sep s) (hb : Bl b) (hb0 : Bl b0) (he : Bl e) : rdSum (b0 ++ (sumW s b l ++ e)) = some (l, false) := by
  cases l with
  | nil => exact zero_sum hb0 he
  | cons x xs =>
    have h := first_read (x := x) (xs := xs.map fun y => (b, y)) (hx x (by simp)) (fun y hy => by
      obtain ⟨z, hz, rfl⟩ := List.mem_map.1 hy
      exact ⟨hb, hx z (by simp [hz])⟩) hs hb0 he
    have h2 : sumW s b (x :: xs) ++ e = (if sgB x then [45] else []) ++ (bodyW s x ++ (tailG s (xs.map fun y => (b, y)) ++ e)) := by
      rw [sumW]; simp [List.append_assoc, tailW]
    rw [h2, h, List.foldl_map, foldl_add (p := [x]) (by simpa using hl)]
    rfl
theorem rdText_of {L : List UInt8} {l : List PT} (hL : L.length ≤ 65536) (h : rdSum L = some (l, false)) : rdText L = (l, 0) := by
  unfold rdText
  rw [if_neg (by omega), h]
  rfl
end Go.Proofs.YtdamegaedmckbaaGreatDoor
end
