/- Plain: a text that is written is read as it: its words, its terms. No condition. -/
import Derived.Test.YtdamegaedmckbaaGreatDoorM25
import Derived.Test.YtdamegaedmckbaaGreatDoorM26
set_option linter.unusedSimpArgs false
set_option linter.unusedVariables false
section
namespace Go.Proofs.YtdamegaedmckbaaGreatDoor
open Go.RowKit

/-! Digits. -/

theorem isDig_of {u : Nat} (h : u < 10) : isDig (UInt8.ofNat (48 + u)) = true := by
  have : (UInt8.ofNat (48 + u)).toNat = 48 + u := by rw [UInt8.toNat_ofNat']; omega
  unfold isDig
  rw [decide_eq_true_eq, this]
  omega
theorem sub_of {u : Nat} (h : u < 10) : (UInt8.ofNat (48 + u)).toNat - 48 = u := by
  have : (UInt8.ofNat (48 + u)).toNat = 48 + u := by rw [UInt8.toNat_ofNat']; omega
  omega
theorem digitsB_snoc {a : List UInt8} {c : UInt8} (ha : digitsB a = true) (h0 : a ≠ [48]) (hc : isDig c = true) : digitsB (a ++ [c]) = true := by
  cases a with
  | nil => cases ha
  | cons b r =>
    simp only [digitsB, Bool.and_eq_true, Bool.or_eq_true] at ha
    simp only [List.cons_append, digitsB, Bool.and_eq_true, Bool.or_eq_true]
    refine ⟨?_, .inr ?_⟩
    · rw [← List.cons_append, List.all_append, ha.1]
      simp [hc]
    · rcases ha.2 with h | h
      · have hr : r = [] := by simpa using h
        subst hr
        rw [decide_eq_true_eq]
        intro e
        apply h0
        have : b.toNat = (48 : UInt8).toNat := by show b.toNat = 48; omega
        rw [UInt8.toNat_inj.1 this]
      · exact h
theorem dec_read (u : Nat) : digitsB (Lib.decDigits u) = true ∧ numN (Lib.decDigits u) = u := by
  induction u using Nat.strongRecOn with
  | _ u ih =>
    rw [Lib.decDigits]
    split
    · next h =>
      refine ⟨?_, ?_⟩
      · show ([UInt8.ofNat (48 + u)].all isDig && (true || _)) = true
        rw [Bool.true_or, Bool.and_true]
        show (isDig (UInt8.ofNat (48 + u)) && true) = true
        rw [isDig_of h]; rfl
      · show 10 * 0 + ((UInt8.ofNat (48 + u)).toNat - 48) = u
        rw [sub_of h]; omega
    · next h =>
      obtain ⟨h1, h2⟩ := ih (u / 10) (by omega)
      have hm : u % 10 < 10 := by omega
      refine ⟨digitsB_snoc h1 ?_ (isDig_of hm), ?_⟩
      · intro e
        rw [e] at h2
        have : numN [48] = 0 := by decide
        omega
      · rw [numN_snoc, h2, sub_of hm]; omega
theorem dec_zero {u : Nat} (h : 0 < u) : Lib.decDigits u ≠ [48] := by
  intro e
  have := (dec_read u).2
  rw [e, show numN [48] = 0 by decide] at this
  omega
theorem dec_few {u k : Nat} (hk : 0 < k) (h : u < 10 ^ k) : (Lib.decDigits u).length ≤ k := by
  obtain ⟨k, rfl⟩ : ∃ j, k = j + 1 := ⟨k - 1, by omega⟩
  exact (padD_eq k u h).2
/-! What is behind a word. -/

def NoDig (R : List UInt8) : Prop := ∀ b, R.head? = some b → isDig b = false
def Stop (R : List UInt8) : Prop := ∀ b, R.head? = some b → b = 32 ∨ b = 9 ∨ b = 42 ∨ b = 43 ∨ b = 45
/-- Behind a term. -/
def EndR (R : List UInt8) : Prop := ∀ b, R.head? = some b → b = 43 ∨ b = 45
theorem Stop.noDig {R : List UInt8} (h : Stop R) : NoDig R := fun b hb => by
  rcases h b hb with rfl | rfl | rfl | rfl | rfl <;> decide
theorem Stop.head {R : List UInt8} (h : Stop R) {c : Int} (hc : c ≠ 32 ∧ c ≠ 9 ∧ c ≠ 42 ∧ c ≠ 43 ∧ c ≠ 45) : headIs R c = false := by
  cases R with
  | nil => rfl
  | cons b r =>
    show decide ((b.toNat : Int) = c) = false
    rw [decide_eq_false_iff_not]
    rcases h b rfl with rfl | rfl | rfl | rfl | rfl <;> (intro e; simp at e; omega)
theorem EndR.stop {R : List UInt8} (h : EndR R) : Stop R := fun b hb => by
  rcases h b hb with rfl | rfl
  · exact .inr (.inr (.inr (.inl rfl)))
  · exact .inr (.inr (.inr (.inr rfl)))
theorem EndR.nil : EndR [] := fun b hb => by cases hb
theorem EndR.cons {b : UInt8} (hb : b = 43 ∨ b = 45) (R : List UInt8) : EndR (b :: R) := fun c hc => by
  cases hc; exact hb
theorem digs_app {d R : List UInt8} (h : d.all isDig = true) (hR : NoDig R) : (d ++ R).takeWhile isDig = d ∧ (d ++ R).dropWhile isDig = R := by
  induction d with
  | nil =>
    cases R with
    | nil => exact ⟨rfl, rfl⟩
    | cons b r =>
      have := hR b rfl
      simp [List.takeWhile, List.dropWhile, this]
  | cons b r ih =>
    simp only [List.all_cons, Bool.and_eq_true] at h
    obtain ⟨i1, i2⟩ := ih h.2
    simp [List.takeWhile, List.dropWhile, h.1, i1, i2]
theorem rdNum_app {d R : List UInt8} (hd : digitsB d = true) (hR : NoDig R) (many : Bool) : rdNum (d ++ R) many = some (d, R, many || decide (200 < d.length)) := by
  obtain ⟨h1, h2⟩ := digs_app (digitsB_all hd).1 hR
  unfold rdNum
  rw [h1, h2, if_pos hd]
theorem rdPos_app {d R : List UInt8} (hd : digitsB d = true) (h0 : d ≠ [48]) (hR : NoDig R) (many : Bool) : rdPos (d ++ R) many = some (d, R, many || decide (200 < d.length)) := by
  unfold rdPos
  rw [rdNum_app hd hR]
  simp only
  rw [if_neg h0]
/-! Factors. -/

/-- A factor: a number, or a letter and how often. -/
inductive Fa where
  | nu (p q : Nat)
  | le (i n : Nat)
def Fa.text : Fa → List UInt8
  | .nu p q => ftext p q
  | .le i n => letterL i n
def Fa.ok : Fa → Prop
  | .nu p q => 0 < q ∧ Nat.gcd p q = 1 ∧ (Lib.decDigits p).length ≤ 200 ∧ (Lib.decDigits q).length ≤ 200
  | .le i n => i < 4 ∧ 1 ≤ n ∧ n ≤ 1000
def Fa.effC : Fa → PC → PC
  | .nu p q, c => mulC c (p, q)
  | .le _ _, c => c
def Fa.effO : Fa → (Nat → Nat) → (Nat → Nat)
  | .nu _ _, o => o
  | .le i n, o => bump o i n
theorem letterOf_xyzt {i : Nat} (h : i < 4) : letterOf (xyzt i) = some i := by
  match i, h with
  | 0, _ => rfl
  | 1, _ => rfl
  | 2, _ => rfl
  | 3, _ => rfl
theorem letterOf_dig {b : UInt8} (h : isDig b = true) : letterOf b = none := by
  unfold isDig at h
  rw [decide_eq_true_eq] at h
  unfold letterOf
  repeat (first | rw [if_neg (by rintro rfl; simp at h)] | rfl)
theorem itoa_nat (n : Nat) : Lib.itoa (n : Int) = Lib.decDigits n := by
  rw [Lib.itoa, if_neg (by omega), Int.toNat_natCast]
theorem mkFr_of {p q : Nat} (hq : 0 < q) (hg : Nat.gcd p q = 1) : mkFr p q = ((p : Int), (q : Int)) := by
  unfold mkFr
  rw [if_neg (by omega)]
  have : Int.gcd (p : Int) (q : Int) = 1 := by simpa [Int.gcd] using hg
  rw [lowP_of this, lowQ_of this]
theorem numZ_dec {u : Nat} (h : (Lib.decDigits u).length ≤ 200) : numZ (Lib.decDigits u) = u := by
  unfold numZ
  rw [if_neg (by omega)]
  exact (dec_read u).2
theorem stop_slash (R : List UInt8) : NoDig (47 :: R) := fun b hb => by cases hb; decide
theorem rdFrac_app {p q : Nat} (hf : (Fa.nu p q).ok) {R : List UInt8} (hR : Stop R) (many : Bool) : rdFrac (ftext p q ++ R) many = some (((p : Int), (q : Int)), R, many) := by
  obtain ⟨hq, hg, h1, h2⟩ := hf
  have e1 : decide (200 < (Lib.decDigits p).length) = false := by rw [decide_eq_false_iff_not]; omega
  have e2 : decide (200 < (Lib.decDigits q).length) = false := by rw [decide_eq_false_iff_not]; omega
  unfold rdFrac ftext
  rw [itoa_nat, itoa_nat]
  by_cases hq1 : (q : Int) = 1
  · obtain rfl : q = 1 := by omega
    rw [if_pos (by omega), List.append_nil, rdNum_app (dec_read p).1 hR.noDig, e1, Bool.or_false]
    simp only
    rw [if_neg (by rw [hR.head (by decide)]; decide), numZ_dec h1, mkFr_of (by omega) hg]
  · rw [if_neg hq1, List.append_assoc, List.cons_append, rdNum_app (dec_read p).1 (stop_slash _), e1, Bool.or_false]
    simp only
    rw [if_pos (by rfl), List.tail_cons, rdPos_app (dec_read q).1 (dec_zero hq) hR.noDig, e2, Bool.or_false]
    simp only
    rw [numZ_dec h1, numZ_dec h2, mkFr_of hq hg]
theorem dec_cons (u : Nat) : ∃ b r, Lib.decDigits u = b :: r ∧ isDig b = true := by
  have h := (dec_read u).1
  cases hd : Lib.decDigits u with
  | nil => rw [hd] at h; cases h
  | cons b r =>
    rw [hd] at h
    have := (digitsB_all h).1
    simp only [List.all_cons, Bool.and_eq_true] at this
    exact ⟨b, r, rfl, this.1⟩
theorem fac_read {f : Fa} (hf : f.ok) {R : List UInt8} (hR : Stop R) (c : PC) (o : Nat → Nat) (many : Bool) : rdFactor ⟨c, o, f.text ++ R, many⟩ = some ⟨f.effC c, f.effO o, R, many⟩ := by
  cases f with
  | nu p q =>
    have h := rdFrac_app hf hR many
    obtain ⟨b, r, hd, hb⟩ := dec_cons p
    have e : ftext p q ++ R = b :: (r ++ (if (q : Int) = 1 then [] else 47 :: Lib.itoa q) ++ R) := by
      rw [ftext, itoa_nat, hd]; simp
    show rdFactor ⟨c, o, ftext p q ++ R, many⟩ = _
    rw [e] at h ⊢
    unfold rdFactor
    simp only
    rw [letterOf_dig hb, h]
    rfl
  | le i n =>
    obtain ⟨hi, h1, h2⟩ := hf
    show rdFactor ⟨c, o, letterL i n ++ R, many⟩ = _
    unfold letterL rdFactor
    rw [List.cons_append]
    simp only
    rw [letterOf_xyzt hi]
    simp only
    by_cases hn : 1 < n
    · rw [if_pos hn, itoa_nat]
      have hl : (Lib.decDigits n).length ≤ 4 := dec_few (by omega) (by omega)
      unfold rdPow
      rw [List.cons_append, if_pos (by rfl), List.tail_cons, rdPos_app (dec_read n).1 (dec_zero (by omega)) hR.noDig, decide_eq_false (by omega : ¬ 200 < (Lib.decDigits n).length), Bool.or_false]
      simp only
      rw [(dec_read n).2, if_neg (by omega)]
      rfl
    · obtain rfl : n = 1 := by omega
      rw [if_neg (by omega), List.nil_append]
      unfold rdPow
      rw [hR.head (by decide)]
      rfl
theorem startsB_dig {b : UInt8} (h : isDig b = true) : startsB b = true := by
  unfold isDig at h
  rw [decide_eq_true_eq] at h
  unfold startsB
  rw [decide_eq_true_eq]
  exact .inl h
theorem startsB_xyzt {i : Nat} (h : i < 4) : startsB (xyzt i) = true := by
  match i, h with
  | 0, _ => rfl
  | 1, _ => rfl
  | 2, _ => rfl
  | 3, _ => rfl
theorem fac_starts {f : Fa} (hf : f.ok) (R : List UInt8) : startsL (f.text ++ R) = true := by
  cases f with
  | nu p q =>
    obtain ⟨b, r, hd, hb⟩ := dec_cons p
    show startsL (ftext p q ++ R) = true
    rw [ftext, itoa_nat, hd]
    exact startsB_dig hb
  | le i n => exact startsB_xyzt hf.1
/-! Blanks. -/

def Bl (s : List UInt8) : Prop := s.all isBlk = true
/-- Between two factors. -/
def Sep (s : List UInt8) : Prop := (Bl s ∧ s ≠ []) ∨ ∃ b b', Bl b ∧ Bl b' ∧ s = b ++ 42 :: b'
theorem skp_app {s X : List UInt8} (h : Bl s) : skp (s ++ X) = skp X := by
  induction s with
  | nil => rfl
  | cons b r ih =>
    unfold Bl at h
    simp only [List.all_cons, Bool.and_eq_true] at h
    show (b :: (r ++ X)).dropWhile isBlk = _
    rw [List.dropWhile_cons, if_pos h.1]
    exact ih h.2
theorem skp_of {X : List UInt8} (h : ∀ b, X.head? = some b → isBlk b = false) : skp X = X := by
  cases X with
  | nil => rfl
  | cons b r =>
    show (b :: r).dropWhile isBlk = _
    rw [List.dropWhile_cons, h b rfl]
    rfl
theorem starts_blk {b : UInt8} (h : startsB b = true) : isBlk b = false := by
  unfold startsB at h
  rw [decide_eq_true_eq] at h
  unfold isBlk
  rw [Bool.or_eq_false_iff, beq_eq_false_iff_ne, beq_eq_false_iff_ne]
  omega
theorem skp_starts {X : List UInt8} (h : startsL X = true) : skp X = X := skp_of fun b hb => by
  cases X with
  | nil => cases hb
  | cons c r => cases hb; exact starts_blk h
theorem skp_end {X : List UInt8} (h : EndR X) : skp X = X := skp_of fun b hb => by
  rcases h b hb with rfl | rfl <;> decide
theorem starts_not {X : List UInt8} {c : Int} (h : startsL X = true) (hc : c = 42 ∨ c = 45) : headIs X c = false := by
  cases X with
  | nil => rfl
  | cons b r =>
    have h' : startsB b = true := h
    unfold startsB at h'
    rw [decide_eq_true_eq] at h'
    show decide ((b.toNat : Int) = c) = false
    rw [decide_eq_false_iff_not]
    omega
theorem end_not {X : List UInt8} (h : EndR X) : headIs X 42 = false ∧ startsL X = false := by
  cases X with
  | nil => exact ⟨rfl, rfl⟩
  | cons b r => rcases h b rfl with rfl | rfl <;> exact ⟨by rfl, by rfl⟩
theorem blk_stop {b : UInt8} (h : isBlk b = true) : b = 32 ∨ b = 9 := by
  unfold isBlk at h
  rw [Bool.or_eq_true, beq_iff_eq, beq_iff_eq] at h
  rcases h with h | h
  · left; apply UInt8.toNat_inj.1; show b.toNat = 32; omega
  · right; apply UInt8.toNat_inj.1; show b.toNat = 9; omega
theorem Sep.stop {s : List UInt8} (h : Sep s) (X : List UInt8) : Stop (s ++ X) := by
  intro b hb
  rcases h with ⟨h, hn⟩ | ⟨b1, b2, h1, h2, rfl⟩
  · cases s with
    | nil => exact absurd rfl hn
    | cons c r =>
      cases hb
      unfold Bl at h
      simp only [List.all_cons, Bool.and_eq_true] at h
      rcases blk_stop h.1 with e | e
      · exact .inl e
      · exact .inr (.inl e)
  · cases b1 with
    | nil => cases hb; exact .inr (.inr (.inl rfl))
    | cons c r =>
      cases hb
      unfold Bl at h1
      simp only [List.all_cons, Bool.and_eq_true] at h1
      rcases blk_stop h1.1 with e | e
      · exact .inl e
      · exact .inr (.inl e)
theorem Bl.stop {s X : List UInt8} (h : Bl s) (hX : EndR X) : Stop (s ++ X) := by
  cases s with
  | nil => exact hX.stop
  | cons c r =>
    intro b hb
    cases hb
    unfold Bl at h
    simp only [List.all_cons, Bool.and_eq_true] at h
    rcases blk_stop h.1 with e | e
    · exact .inl e
    · exact .inr (.inl e)
/-! A term's factors. -/

theorem rdLoop_step {f : Fa} (hf : f.ok) {s X : List UInt8} (hs : Sep s) (hX : startsL X = true) (c : PC) (o : Nat → Nat) (many : Bool) : rdLoop ⟨c, o, f.text ++ (s ++ X), many⟩ = rdLoop ⟨f.effC c, f.effO o, X, many⟩ := by
  rw [rdLoop_eq]
  simp only
  rw [if_pos (fac_starts hf _), fac_read hf (hs.stop X)]
  simp only
  rcases hs with ⟨h, hn⟩ | ⟨b1, b2, h1, h2, rfl⟩
  · rw [skp_app h, skp_starts hX, if_neg (by rw [starts_not hX (.inl rfl)]; decide), if_pos hX]
  · rw [List.append_assoc, skp_app h1, List.cons_append]
    rw [skp_of (X := 42 :: (b2 ++ X)) (fun b hb => by cases hb; decide), if_pos (by rfl), List.tail_cons, skp_app h2, skp_starts hX]
theorem rdLoop_last {f : Fa} (hf : f.ok) {s R : List UInt8} (hs : Bl s) (hR : EndR R) (c : PC) (o : Nat → Nat) (many : Bool) : rdLoop ⟨c, o, f.text ++ (s ++ R), many⟩ = some ⟨f.effC c, f.effO o, R, many⟩ := by
  rw [rdLoop_eq]
  simp only
  rw [if_pos (fac_starts hf _), fac_read hf (hs.stop hR)]
  simp only
  rw [skp_app hs, skp_end hR, if_neg (by rw [(end_not hR).1]; decide), if_neg (by rw [(end_not hR).2]; decide)]
/-- Factors, one behind the other, and what they make of a term. -/
def effsC (l : List Fa) (c : PC) : PC := l.foldl (fun c f => f.effC c) c
def effsO (l : List Fa) (o : Nat → Nat) : Nat → Nat := l.foldl (fun o f => f.effO o) o
/-- Factors with what stands behind each. -/
def sepT (l : List (Fa × List UInt8)) : List UInt8 := (l.map fun x => x.1.text ++ x.2).flatten
theorem rdLoop_facs (l : List (Fa × List UInt8)) (f : Fa) (s R : List UInt8) (hl : ∀ x ∈ l, x.1.ok ∧ Sep x.2) (hf : f.ok) (hs : Bl s) (hR : EndR R) (c : PC) (o : Nat → Nat) (many : Bool) :
    rdLoop ⟨c, o, sepT l ++ (f.text ++ (s ++ R)), many⟩ = some ⟨effsC (l.map (·.1) ++ [f]) c, effsO (l.map (·.1) ++ [f]) o, R, many⟩ := by
  induction l generalizing c o with
  | nil => exact rdLoop_last hf hs hR c o many
  | cons x l ih =>
    obtain ⟨h1, h2⟩ := hl x (by simp)
    have hst : startsL (sepT l ++ (f.text ++ (s ++ R))) = true := by
      cases l with
      | nil => exact fac_starts hf _
      | cons y l =>
        have := fac_starts (hl y (by simp)).1 (y.2 ++ (sepT l ++ (f.text ++ (s ++ R))))
        simpa [sepT] using this
    have e : sepT (x :: l) ++ (f.text ++ (s ++ R)) = x.1.text ++ (x.2 ++ (sepT l ++ (f.text ++ (s ++ R)))) := by simp [sepT]
    rw [e, rdLoop_step h1 h2 hst, ih (fun y hy => hl y (by simp [hy]))]
    rfl
/-- A term that is written: factors with a blank, or a sign between. -/
theorem rdTerm_facs (l : List (Fa × List UInt8)) (f : Fa) (b s R : List UInt8) (hl : ∀ x ∈ l, x.1.ok ∧ Sep x.2) (hf : f.ok) (hb : Bl b) (hs : Bl s) (hR : EndR R) (many neg : Bool) :
    rdTerm (b ++ (sepT l ++ (f.text ++ (s ++ R)))) many neg = some (oneT (keyO (effsO (l.map (·.1) ++ [f]) fun _ => 0)) (effsC (l.map (·.1) ++ [f]) (if neg then -1 else 1, 1)), R, many || over (effsO (l.map (·.1) ++ [f]) fun _ => 0)) := by
  have hst : startsL (sepT l ++ (f.text ++ (s ++ R))) = true := by
    cases l with
    | nil => exact fac_starts hf _
    | cons y l =>
      have := fac_starts (hl y (by simp)).1 (y.2 ++ (sepT l ++ (f.text ++ (s ++ R))))
      simpa [sepT] using this
  unfold rdTerm
  rw [skp_app hb, skp_starts hst, rdLoop_facs l f s R hl hf hs hR]
end Go.Proofs.YtdamegaedmckbaaGreatDoor
end
