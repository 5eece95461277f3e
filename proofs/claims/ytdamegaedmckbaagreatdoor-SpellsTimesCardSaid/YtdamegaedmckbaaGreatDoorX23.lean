/- Plain: a text that is written is read as it: its words, its terms. No condition. Plain: a sum that is written is read as it, whichever blanks stand between its words. No condition. -/
import Derived.Test.YtdamegaedmckbaaGreatDoorX21
import Derived.Test.YtdamegaedmckbaaGreatDoorX22
set_option linter.unusedSimpArgs false
set_option linter.unusedVariables false
section
namespace Go.Proofs.YtdamegaedmckbaaGreatDoor
open Go.RowKit

/-! Digits. -/

theorem isDig_of {u : Nat} (h : u < 10) : isDig (UInt8.ofNat (48 + u)) = true := by
  have : (UInt8.ofNat (48 + u)).toNat = 48 + u := by rw [UInt8.toNat_ofNat']; omega
  unfold isDig
  rw [decide_eq_true_eq, this]
  omega
theorem sub_of {u : Nat} (h : u < 10) : (UInt8.ofNat (48 + u)).toNat - 48 = u := by
  have : (UInt8.ofNat (48 + u)).toNat = 48 + u := by rw [UInt8.toNat_ofNat']; omega
  omega
theorem digitsB_snoc {a : List UInt8} {c : UInt8} (ha : digitsB a = true) (h0 : a ≠ [48]) (hc : isDig c = true) : digitsB (a ++ [c]) = true := by
  cases a with
  | nil => cases ha
  | cons b r =>
    simp only [digitsB, Bool.and_eq_true, Bool.or_eq_true] at ha
    simp only [List.cons_append, digitsB, Bool.and_eq_true, Bool.or_eq_true]
    refine ⟨?_, .inr ?_⟩
    · rw [← List.cons_append, List.all_append, ha.1]
      simp [hc]
    · rcases ha.2 with h | h
      · have hr : r = [] := by simpa using h
        subst hr
        rw [decide_eq_true_eq]
        intro e
        apply h0
        have : b.toNat = (48 : UInt8).toNat := by show b.toNat = 48; omega
        rw [UInt8.toNat_inj.1 this]
      · exact h
theorem dec_read (u : Nat) : digitsB (Lib.decDigits u) = true ∧ numN (Lib.decDigits u) = u := by
  induction u using Nat.strongRecOn with
  | _ u ih =>
    rw [Lib.decDigits]
    split
    · next h =>
      refine ⟨?_, ?_⟩
      · show ([UInt8.ofNat (48 + u)].all isDig && (true || _)) = true
        rw [Bool.true_or, Bool.and_true]
        show (isDig (UInt8.ofNat (48 + u)) && true) = true
        rw [isDig_of h]; rfl
      · show 10 * 0 + ((UInt8.ofNat (48 + u)).toNat - 48) = u
        rw [sub_of h]; omega
    · next h =>
      obtain ⟨h1, h2⟩ := ih (u / 10) (by omega)
      have hm : u % 10 < 10 := by omega
      refine ⟨digitsB_snoc h1 ?_ (isDig_of hm), ?_⟩
      · intro e
        rw [e] at h2
        have : numN [48] = 0 := by decide
        omega
      · rw [numN_snoc, h2, sub_of hm]; omega
theorem dec_zero {u : Nat} (h : 0 < u) : Lib.decDigits u ≠ [48] := by
  intro e
  have := (dec_read u).2
  rw [e, show numN [48] = 0 by decide] at this
  omega
theorem dec_few {u k : Nat} (hk : 0 < k) (h : u < 10 ^ k) : (Lib.decDigits u).length ≤ k := by
  obtain ⟨k, rfl⟩ : ∃ j, k = j + 1 := ⟨k - 1, by omega⟩
  exact (padD_eq k u h).2
theorem dec_dg {u K : Nat} (hK : 0 < K) (h : (dg u).length ≤ K) : (Lib.decDigits u).length ≤ 9 * K := by
  apply dec_few (by omega)
  have h1 := val_lt (dg u) (dg_lt _)
  rw [val_dg, show (1000000000 : Nat) = 10 ^ 9 from rfl, ← Nat.pow_mul] at h1
  exact Nat.lt_of_lt_of_le h1 (Nat.pow_le_pow_right (by omega) (by omega))
/-! What is behind a word. -/

def NoDig (R : List UInt8) : Prop := ∀ b, R.head? = some b → isDig b = false
def Stop (R : List UInt8) : Prop := ∀ b, R.head? = some b → b = 32 ∨ b = 9 ∨ b = 42 ∨ b = 43 ∨ b = 45
/-- Behind a term. -/
def EndR (R : List UInt8) : Prop := ∀ b, R.head? = some b → b = 43 ∨ b = 45
theorem Stop.noDig {R : List UInt8} (h : Stop R) : NoDig R := fun b hb => by
  rcases h b hb with rfl | rfl | rfl | rfl | rfl <;> decide
theorem Stop.head {R : List UInt8} (h : Stop R) {c : Int} (hc : c ≠ 32 ∧ c ≠ 9 ∧ c ≠ 42 ∧ c ≠ 43 ∧ c ≠ 45) : headIs R c = false := by
  cases R with
  | nil => rfl
  | cons b r =>
    show decide ((b.toNat : Int) = c) = false
    rw [decide_eq_false_iff_not]
    rcases h b rfl with rfl | rfl | rfl | rfl | rfl <;> (intro e; simp at e; omega)
theorem EndR.stop {R : List UInt8} (h : EndR R) : Stop R := fun b hb => by
  rcases h b hb with rfl | rfl
  · exact .inr (.inr (.inr (.inl rfl)))
  · exact .inr (.inr (.inr (.inr rfl)))
theorem EndR.nil : EndR [] := fun b hb => by cases hb
theorem EndR.cons {b : UInt8} (hb : b = 43 ∨ b = 45) (R : List UInt8) : EndR (b :: R) := fun c hc => by
  cases hc; exact hb
theorem digs_app {d R : List UInt8} (h : d.all isDig = true) (hR : NoDig R) : (d ++ R).takeWhile isDig = d ∧ (d ++ R).dropWhile isDig = R := by
  induction d with
  | nil =>
    cases R with
    | nil => exact ⟨rfl, rfl⟩
    | cons b r =>
      have := hR b rfl
      simp [List.takeWhile, List.dropWhile, this]
  | cons b r ih =>
    simp only [List.all_cons, Bool.and_eq_true] at h
    obtain ⟨i1, i2⟩ := ih h.2
    simp [List.takeWhile, List.dropWhile, h.1, i1, i2]
theorem rdNum_app {d R : List UInt8} (hd : digitsB d = true) (hR : NoDig R) (many : Bool) : rdNum (d ++ R) many = some (d, R, many || decide (200 < d.length)) := by
  obtain ⟨h1, h2⟩ := digs_app (digitsB_all hd).1 hR
  unfold rdNum
  rw [h1, h2, if_pos hd]
theorem rdPos_app {d R : List UInt8} (hd : digitsB d = true) (h0 : d ≠ [48]) (hR : NoDig R) (many : Bool) : rdPos (d ++ R) many = some (d, R, many || decide (200 < d.length)) := by
  unfold rdPos
  rw [rdNum_app hd hR]
  simp only
  rw [if_neg h0]
/-! Factors. -/

/-- A factor: a number, or a letter and how often. -/
inductive Fa where
  | nu (p q : Nat)
  | le (i n : Nat)
def Fa.text : Fa → List UInt8
  | .nu p q => ftext p q
  | .le i n => letterL i n
def Fa.ok : Fa → Prop
  | .nu p q => 0 < q ∧ Nat.gcd p q = 1 ∧ (Lib.decDigits p).length ≤ 200 ∧ (Lib.decDigits q).length ≤ 200
  | .le i n => i < 4 ∧ 1 ≤ n ∧ n ≤ 1000
def Fa.effC : Fa → PC → PC
  | .nu p q, c => mulC c (p, q)
  | .le _ _, c => c
def Fa.effO : Fa → (Nat → Nat) → (Nat → Nat)
  | .nu _ _, o => o
  | .le i n, o => bump o i n
theorem letterOf_xyzt {i : Nat} (h : i < 4) : letterOf (xyzt i) = some i := by
  match i, h with
  | 0, _ => rfl
  | 1, _ => rfl
  | 2, _ => rfl
  | 3, _ => rfl
theorem letterOf_dig {b : UInt8} (h : isDig b = true) : letterOf b = none := by
  unfold isDig at h
  rw [decide_eq_true_eq] at h
  unfold letterOf
  repeat (first | rw [if_neg (by rintro rfl; simp at h)] | rfl)
theorem itoa_nat (n : Nat) : Lib.itoa (n : Int) = Lib.decDigits n := by
  rw [Lib.itoa, if_neg (by omega), Int.toNat_natCast]
theorem mkFr_of {p q : Nat} (hq : 0 < q) (hg : Nat.gcd p q = 1) : mkFr p q = ((p : Int), (q : Int)) := by
  unfold mkFr
  rw [if_neg (by omega)]
  have : Int.gcd (p : Int) (q : Int) = 1 := by simpa [Int.gcd] using hg
  rw [lowP_of this, lowQ_of this]
theorem numZ_dec {u : Nat} (h : (Lib.decDigits u).length ≤ 200) : numZ (Lib.decDigits u) = u := by
  unfold numZ
  rw [if_neg (by omega)]
  exact (dec_read u).2
theorem stop_slash (R : List UInt8) : NoDig (47 :: R) := fun b hb => by cases hb; decide
theorem rdFrac_app {p q : Nat} (hf : (Fa.nu p q).ok) {R : List UInt8} (hR : Stop R) (many : Bool) : rdFrac (ftext p q ++ R) many = some (((p : Int), (q : Int)), R, many) := by
  obtain ⟨hq, hg, h1, h2⟩ := hf
  have e1 : decide (200 < (Lib.decDigits p).length) = false := by rw [decide_eq_false_iff_not]; omega
  have e2 : decide (200 < (Lib.decDigits q).length) = false := by rw [decide_eq_false_iff_not]; omega
  unfold rdFrac ftext
  rw [itoa_nat, itoa_nat]
  by_cases hq1 : (q : Int) = 1
  · obtain rfl : q = 1 := by omega
    rw [if_pos (by omega), List.append_nil, rdNum_app (dec_read p).1 hR.noDig, e1, Bool.or_false]
    simp only
    rw [if_neg (by rw [hR.head (by decide)]; decide), numZ_dec h1, mkFr_of (by omega) hg]
  · rw [if_neg hq1, List.append_assoc, List.cons_append, rdNum_app (dec_read p).1 (stop_slash _), e1, Bool.or_false]
    simp only
    rw [if_pos (by rfl), List.tail_cons, rdPos_app (dec_read q).1 (dec_zero hq) hR.noDig, e2, Bool.or_false]
    simp only
    rw [numZ_dec h1, numZ_dec h2, mkFr_of hq hg]
theorem dec_cons (u : Nat) : ∃ b r, Lib.decDigits u = b :: r ∧ isDig b = true := by
  have h := (dec_read u).1
  cases hd : Lib.decDigits u with
  | nil => rw [hd] at h; cases h
  | cons b r =>
    rw [hd] at h
    have := (digitsB_all h).1
    simp only [List.all_cons, Bool.and_eq_true] at this
    exact ⟨b, r, rfl, this.1⟩
theorem fac_read {f : Fa} (hf : f.ok) {R : List UInt8} (hR : Stop R) (c : PC) (o : Nat → Nat) (many : Bool) : rdFactor ⟨c, o, f.text ++ R, many⟩ = some ⟨f.effC c, f.effO o, R, many⟩ := by
  cases f with
  | nu p q =>
    have h := rdFrac_app hf hR many
    obtain ⟨b, r, hd, hb⟩ := dec_cons p
    have e : ftext p q ++ R = b :: (r ++ (if (q : Int) = 1 then [] else 47 :: Lib.itoa q) ++ R) := by
      rw [ftext, itoa_nat, hd]; simp
    show rdFactor ⟨c, o, ftext p q ++ R, many⟩ = _
    rw [e] at h ⊢
    unfold rdFactor
    simp only
    rw [letterOf_dig hb, h]
    rfl
  | le i n =>
    obtain ⟨hi, h1, h2⟩ := hf
    show rdFactor ⟨c, o, letterL i n ++ R, many⟩ = _
    unfold letterL rdFactor
    rw [List.cons_append]
    simp only
    rw [letterOf_xyzt hi]
    simp only
    by_cases hn : 1 < n
    · rw [if_pos hn, itoa_nat]
      have hl : (Lib.decDigits n).length ≤ 4 := dec_few (by omega) (by omega)
      unfold rdPow
      rw [List.cons_append, if_pos (by rfl), List.tail_cons, rdPos_app (dec_read n).1 (dec_zero (by omega)) hR.noDig, decide_eq_false (by omega : ¬ 200 < (Lib.decDigits n).length), Bool.or_false]
      simp only
      rw [(dec_read n).2, if_neg (by omega)]
      rfl
    · obtain rfl : n = 1 := by omega
      rw [if_neg (by omega), List.nil_append]
      unfold rdPow
      rw [hR.head (by decide)]
      rfl
theorem startsB_dig {b : UInt8} (h : isDig b = true) : startsB b = true := by
  unfold isDig at h
  rw [decide_eq_true_eq] at h
  unfold startsB
  rw [decide_eq_true_eq]
  exact .inl h
theorem startsB_xyzt {i : Nat} (h : i < 4) : startsB (xyzt i) = true := by
  match i, h with
  | 0, _ => rfl
  | 1, _ => rfl
  | 2, _ => rfl
  | 3, _ => rfl
theorem fac_starts {f : Fa} (hf : f.ok) (R : List UInt8) : startsL (f.text ++ R) = true := by
  cases f with
  | nu p q =>
    obtain ⟨b, r, hd, hb⟩ := dec_cons p
    show startsL (ftext p q ++ R) = true
    rw [ftext, itoa_nat, hd]
    exact startsB_dig hb
  | le i n => exact startsB_xyzt hf.1
/-! Blanks. -/

def Bl (s : List UInt8) : Prop := s.all isBlk = true
/-- Between two factors. -/
def Sep (s : List UInt8) : Prop := (Bl s ∧ s ≠ []) ∨ ∃ b b', Bl b ∧ Bl b' ∧ s = b ++ 42 :: b'
theorem skp_app {s X : List UInt8} (h : Bl s) : skp (s ++ X) = skp X := by
  induction s with
  | nil => rfl
  | cons b r ih =>
    unfold Bl at h
    simp only [List.all_cons, Bool.and_eq_true] at h
    show (b :: (r ++ X)).dropWhile isBlk = _
    rw [List.dropWhile_cons, if_pos h.1]
    exact ih h.2
theorem skp_of {X : List UInt8} (h : ∀ b, X.head? = some b → isBlk b = false) : skp X = X := by
  cases X with
  | nil => rfl
  | cons b r =>
    show (b :: r).dropWhile isBlk = _
    rw [List.dropWhile_cons, h b rfl]
    rfl
theorem starts_blk {b : UInt8} (h : startsB b = true) : isBlk b = false := by
  unfold startsB at h
  rw [decide_eq_true_eq] at h
  unfold isBlk
  rw [Bool.or_eq_false_iff, beq_eq_false_iff_ne, beq_eq_false_iff_ne]
  omega
theorem skp_starts {X : List UInt8} (h : startsL X = true) : skp X = X := skp_of fun b hb => by
  cases X with
  | nil => cases hb
  | cons c r => cases hb; exact starts_blk h
theorem skp_end {X : List UInt8} (h : EndR X) : skp X = X := skp_of fun b hb => by
  rcases h b hb with rfl | rfl <;> decide
theorem starts_not {X : List UInt8} {c : Int} (h : startsL X = true) (hc : c = 42 ∨ c = 45) : headIs X c = false := by
  cases X with
  | nil => rfl
  | cons b r =>
    have h' : startsB b = true := h
    unfold startsB at h'
    rw [decide_eq_true_eq] at h'
    show decide ((b.toNat : Int) = c) = false
    rw [decide_eq_false_iff_not]
    omega
theorem end_not {X : List UInt8} (h : EndR X) : headIs X 42 = false ∧ startsL X = false := by
  cases X with
  | nil => exact ⟨rfl, rfl⟩
  | cons b r => rcases h b rfl with rfl | rfl <;> exact ⟨by rfl, by rfl⟩
theorem blk_stop {b : UInt8} (h : isBlk b = true) : b = 32 ∨ b = 9 := by
  unfold isBlk at h
  rw [Bool.or_eq_true, beq_iff_eq, beq_iff_eq] at h
  rcases h with h | h
  · left; apply UInt8.toNat_inj.1; show b.toNat = 32; omega
  · right; apply UInt8.toNat_inj.1; show b.toNat = 9; omega
theorem Sep.stop {s : List UInt8} (h : Sep s) (X : List UInt8) : Stop (s ++ X) := by
  intro b hb
  rcases h with ⟨h, hn⟩ | ⟨b1, b2, h1, h2, rfl⟩
  · cases s with
    | nil => exact absurd rfl hn
    | cons c r =>
      cases hb
      unfold Bl at h
      simp only [List.all_cons, Bool.and_eq_true] at h
      rcases blk_stop h.1 with e | e
      · exact .inl e
      · exact .inr (.inl e)
  · cases b1 with
    | nil => cases hb; exact .inr (.inr (.inl rfl))
    | cons c r =>
      cases hb
      unfold Bl at h1
      simp only [List.all_cons, Bool.and_eq_true] at h1
      rcases blk_stop h1.1 with e | e
      · exact .inl e
      · exact .inr (.inl e)
theorem Bl.stop {s X : List UInt8} (h : Bl s) (hX : EndR X) : Stop (s ++ X) := by
  cases s with
  | nil => exact hX.stop
  | cons c r =>
    intro b hb
    cases hb
    unfold Bl at h
    simp only [List.all_cons, Bool.and_eq_true] at h
    rcases blk_stop h.1 with e | e
    · exact .inl e
    · exact .inr (.inl e)
/-! A term's factors. -/

theorem rdLoop_step {f : Fa} (hf : f.ok) {s X : List UInt8} (hs : Sep s) (hX : startsL X = true) (c : PC) (o : Nat → Nat) (many : Bool) : rdLoop ⟨c, o, f.text ++ (s ++ X), many⟩ = rdLoop ⟨f.effC c, f.effO o, X, many⟩ := by
  rw [rdLoop_eq]
  simp only
  rw [if_pos (fac_starts hf _), fac_read hf (hs.stop X)]
  simp only
  rcases hs with ⟨h, hn⟩ | ⟨b1, b2, h1, h2, rfl⟩
  · rw [skp_app h, skp_starts hX, if_neg (by rw [starts_not hX (.inl rfl)]; decide), if_pos hX]
  · rw [List.append_assoc, skp_app h1, List.cons_append]
    rw [skp_of (X := 42 :: (b2 ++ X)) (fun b hb => by cases hb; decide), if_pos (by rfl), List.tail_cons, skp_app h2, skp_starts hX]
theorem rdLoop_last {f : Fa} (hf : f.ok) {s R : List UInt8} (hs : Bl s) (hR : EndR R) (c : PC) (o : Nat → Nat) (many : Bool) : rdLoop ⟨c, o, f.text ++ (s ++ R), many⟩ = some ⟨f.effC c, f.effO o, R, many⟩ := by
  rw [rdLoop_eq]
  simp only
  rw [if_pos (fac_starts hf _), fac_read hf (hs.stop hR)]
  simp only
  rw [skp_app hs, skp_end hR, if_neg (by rw [(end_not hR).1]; decide), if_neg (by rw [(end_not hR).2]; decide)]
/-- Factors, one behind the other, and what they make of a term. -/
def effsC (l : List Fa) (c : PC) : PC := l.foldl (fun c f => f.effC c) c
def effsO (l : List Fa) (o : Nat → Nat) : Nat → Nat := l.foldl (fun o f => f.effO o) o
/-- Factors with what stands behind each. -/
def sepT (l : List (Fa × List UInt8)) : List UInt8 := (l.map fun x => x.1.text ++ x.2).flatten
theorem rdLoop_facs (l : List (Fa × List UInt8)) (f : Fa) (s R : List UInt8) (hl : ∀ x ∈ l, x.1.ok ∧ Sep x.2) (hf : f.ok) (hs : Bl s) (hR : EndR R) (c : PC) (o : Nat → Nat) (many : Bool) :
    rdLoop ⟨c, o, sepT l ++ (f.text ++ (s ++ R)), many⟩ = some ⟨effsC (l.map (·.1) ++ [f]) c, effsO (l.map (·.1) ++ [f]) o, R, many⟩ := by
  induction l generalizing c o with
  | nil => exact rdLoop_last hf hs hR c o many
  | cons x l ih =>
    obtain ⟨h1, h2⟩ := hl x (by simp)
    have hst : startsL (sepT l ++ (f.text ++ (s ++ R))) = true := by
      cases l with
      | nil => exact fac_starts hf _
      | cons y l =>
        have := fac_starts (hl y (by simp)).1 (y.2 ++ (sepT l ++ (f.text ++ (s ++ R))))
        simpa [sepT] using this
    have e : sepT (x :: l) ++ (f.text ++ (s ++ R)) = x.1.text ++ (x.2 ++ (sepT l ++ (f.text ++ (s ++ R)))) := by simp [sepT]
    rw [e, rdLoop_step h1 h2 hst, ih (fun y hy => hl y (by simp [hy]))]
    rfl
/-- A term that is written: factors with a blank, or a sign between. -/
theorem rdTerm_facs (l : List (Fa × List UInt8)) (f : Fa) (b s R : List UInt8) (hl : ∀ x ∈ l, x.1.ok ∧ Sep x.2) (hf : f.ok) (hb : Bl b) (hs : Bl s) (hR : EndR R) (many neg : Bool) :
    rdTerm (b ++ (sepT l ++ (f.text ++ (s ++ R)))) many neg = some (oneT (keyO (effsO (l.map (·.1) ++ [f]) fun _ => 0)) (effsC (l.map (·.1) ++ [f]) (if neg then -1 else 1, 1)), R, many || over (effsO (l.map (·.1) ++ [f]) fun _ => 0)) := by
  have hst : startsL (sepT l ++ (f.text ++ (s ++ R))) = true := by
    cases l with
    | nil => exact fac_starts hf _
    | cons y l =>
      have := fac_starts (hl y (by simp)).1 (y.2 ++ (sepT l ++ (f.text ++ (s ++ R))))
      simpa [sepT] using this
  unfold rdTerm
  rw [skp_app hb, skp_starts hst, rdLoop_facs l f s R hl hf hs hR]
end Go.Proofs.YtdamegaedmckbaaGreatDoor
end
section
namespace Go.Proofs.YtdamegaedmckbaaGreatDoor
open Go.RowKit

/-- How often each letter stands in a product of this key. -/
def expo (k : Nat) : Nat → Nat := quadN (k / 281474976710656) (k / 4294967296 % 65536) (k / 65536 % 65536) (k % 65536)
theorem key_expo (k : Nat) : key4 (expo k 0) (expo k 1) (expo k 2) (expo k 3) = k := by
  unfold key4 expo
  simp only [quadN]
  omega
theorem expo_key {a b c d : Nat} (hb : b < 65536) (hc : c < 65536) (hd : d < 65536) : expo (key4 a b c d) = quadN a b c d := by
  unfold expo
  congr 1 <;> (unfold key4; omega)
/-- The letters of a product, as factors. -/
def letF (m : Nat → Nat) : Nat → List Fa
  | 0 => []
  | k + 1 => letF m k ++ (if 0 < m k then [.le k (m k)] else [])
theorem letF_text (m : Nat → Nat) (k : Nat) : (letF m k).map Fa.text = lets m k := by
  induction k with
  | zero => rfl
  | succ k ih =>
    rw [letF, lets, List.map_append, ih]
    split <;> rfl
theorem letF_effC (m : Nat → Nat) (k : Nat) (c : PC) : effsC (letF m k) c = c := by
  induction k with
  | zero => rfl
  | succ k ih =>
    unfold effsC at ih ⊢
    rw [letF, List.foldl_append, ih]
    split <;> rfl
theorem letF_from (m o : Nat → Nat) (k : Nat) : ∀ j, effsO (letF m k) o j = o j + (if j < k then m j else 0) := by
  induction k with
  | zero => intro j; rw [if_neg (by omega)]; rfl
  | succ k ih =>
    intro j
    have e : effsO (letF m (k + 1)) o = effsO (if 0 < m k then [.le k (m k)] else []) (effsO (letF m k) o) := by
      unfold effsO; rw [letF, List.foldl_append]
    rw [e]
    by_cases h : 0 < m k
    · rw [if_pos h]
      show bump (effsO (letF m k) o) k (m k) j = _
      unfold bump
      by_cases hj : j = k
      · subst hj
        rw [if_pos rfl, ih j, if_neg (by omega), if_pos (by omega)]; omega
      · rw [if_neg hj, ih j]
        by_cases h1 : j < k
        · rw [if_pos h1, if_pos (by omega)]
        · rw [if_neg h1, if_neg (by omega)]
    · rw [if_neg h]
      show effsO (letF m k) o j = _
      rw [ih j]
      by_cases h1 : j < k
      · rw [if_pos h1, if_pos (by omega)]
      · rw [if_neg h1]
        by_cases h2 : j < k + 1
        · obtain rfl : j = k := by omega
          rw [if_pos h2]; omega
        · rw [if_neg h2]
theorem letF_ok {m : Nat → Nat} (hm : ∀ i, i < 4 → m i ≤ 1000) : ∀ k, k ≤ 4 → ∀ f ∈ letF m k, f.ok := by
  intro k
  induction k with
  | zero => intro _ f hf; cases hf
  | succ k ih =>
    intro hk f hf
    rw [letF, List.mem_append] at hf
    rcases hf with hf | hf
    · exact ih (by omega) f hf
    · split at hf
      · next h =>
        simp only [List.mem_singleton] at hf
        subst hf
        exact ⟨by omega, by omega, hm k (by omega)⟩
      · cases hf
/-- A term that can be written, and read. -/
structure FineT (x : PT) : Prop where
  c : CW x.2
  nz : x.2.1 ≠ 0
  top : (Lib.decDigits x.2.1.natAbs).length ≤ 200
  low : (Lib.decDigits x.2.2.natAbs).length ≤ 200
  pow : ∀ i, i < 4 → expo x.1 i ≤ 1000
/-- A term's factors, as they are written. -/
def facs (x : PT) : List Fa :=
  if (Fa.nu x.2.1.natAbs x.2.2.natAbs).text ≠ [49] ∨ lets (expo x.1) 4 = [] then .nu x.2.1.natAbs x.2.2.natAbs :: letF (expo x.1) 4 else letF (expo x.1) 4
theorem facs_text (x : PT) : (facs x).map Fa.text = wordsL (ftext (x.2.1.natAbs : Int) (x.2.2.natAbs : Int)) (expo x.1) := by
  unfold facs wordsL
  by_cases h : (Fa.nu x.2.1.natAbs x.2.2.natAbs).text ≠ [49] ∨ lets (expo x.1) 4 = []
  · have h' : ftext (x.2.1.natAbs : Int) (x.2.2.natAbs : Int) ≠ [49] ∨ lets (expo x.1) 4 = [] := h
    rw [if_pos h, if_pos h', List.map_cons, letF_text]; rfl
  · have h' : ¬ (ftext (x.2.1.natAbs : Int) (x.2.2.natAbs : Int) ≠ [49] ∨ lets (expo x.1) 4 = []) := h
    rw [if_neg h, if_neg h', letF_text]
theorem facs_ne (x : PT) : facs x ≠ [] := by
  intro e
  have h := facs_text x
  rw [e] at h
  obtain ⟨y, l, e⟩ := words_cons (ftext (x.2.1.natAbs : Int) (x.2.2.natAbs : Int)) (expo x.1)
  rw [e] at h
  cases h
theorem facs_ok {x : PT} (hx : FineT x) : ∀ f ∈ facs x, f.ok := by
  have h1 := letF_ok hx.pow 4 (by omega)
  have h2 : (Fa.nu x.2.1.natAbs x.2.2.natAbs).ok := ⟨by have := hx.c.pos; omega, hx.c.red, hx.top, hx.low⟩
  unfold facs
  split
  · intro f hf
    rcases List.mem_cons.1 hf with rfl | hf
    · exact h2
    · exact h1 f hf
  · exact h1
theorem ftext_one {p q : Nat} (h : ftext p q = [49]) : p = 1 ∧ q = 1 := by
  unfold ftext at h
  rw [itoa_nat, itoa_nat] at h
  by_cases hq : (q : Int) = 1
  · rw [if_pos hq, List.append_nil] at h
    have := (dec_read p).2
    rw [h, show numN [49] = 1 by decide] at this
    omega
  · rw [if_neg hq] at h
    obtain ⟨b, r, hd, _⟩ := dec_cons p
    rw [hd] at h
    have := congrArg List.length h
    simp at this
theorem mulC_sign {p q : Nat} (hq : 0 < q) (hg : Nat.gcd p q = 1) (neg : Bool) : mulC ((if neg then -1 else 1, 1) : PC) (p, q) = (if neg then -(p : Int) else p, (q : Int)) := by
  unfold mulC
  cases neg
  · simp only [Bool.false_eq_true, if_false, Int.one_mul]
    have : Int.gcd (p : Int) (q : Int) = 1 := by simpa [Int.gcd] using hg
    rw [lowP_of this, lowQ_of this]
  · simp only [if_true, Int.one_mul]
    have e : (-1 : Int) * (p : Int) = -(p : Int) := by omega
    have : Int.gcd (-(p : Int)) (q : Int) = 1 := by simpa [Int.gcd] using hg
    rw [e, lowP_of this, lowQ_of this]
/-- A term with this sign. -/
def sg (neg : Bool) (x : PT) : PT := (x.1, (if neg then -(x.2.1.natAbs : Int) else x.2.1.natAbs), x.2.2)
def sgB (x : PT) : Bool := decide (x.2.1 < 0)
theorem sg_self (x : PT) : sg (sgB x) x = x := by
  obtain ⟨k, p, q⟩ := x
  unfold sg sgB
  simp only
  by_cases h : p < 0
  · rw [decide_eq_true h, if_pos rfl]; congr 2; omega
  · rw [decide_eq_false h, if_neg (by decide)]; congr 2; omega
theorem facs_effC {x : PT} (hx : FineT x) (neg : Bool) : effsC (facs x) (if neg then -1 else 1, 1) = (sg neg x).2 := by
  have hq := hx.c.pos
  have h1 : effsC (.nu x.2.1.natAbs x.2.2.natAbs :: letF (expo x.1) 4) (if neg then -1 else 1, 1) = (sg neg x).2 := by
    have : effsC (.nu x.2.1.natAbs x.2.2.natAbs :: letF (expo x.1) 4) (if neg then -1 else 1, 1) = effsC (letF (expo x.1) 4) (mulC ((if neg then -1 else 1, 1) : PC) ((x.2.1.natAbs : Nat), (x.2.2.natAbs : Nat))) := rfl
    rw [this, letF_effC, mulC_sign (by omega) hx.c.red]
    unfold sg
    simp only
    congr 1
    omega
  unfold facs
  split
  · exact h1
  · next h =>
    simp only [not_or, ne_eq, Decidable.not_not] at h
    obtain ⟨e1, e2⟩ := ftext_one h.1
    rw [letF_effC]
    unfold sg
    simp only
    rw [e1, show x.2.2 = 1 by omega]
    cases neg <;> rfl
theorem facs_from (x : PT) (o : Nat → Nat) : ∀ j, effsO (facs x) o j = o j + (if j < 4 then expo x.1 j else 0) := by
  unfold facs
  split
  · exact letF_from (expo x.1) o 4
  · exact letF_from (expo x.1) o 4
theorem facs_effO (x : PT) : ∀ j, effsO (facs x) (fun _ => 0) j = if j < 4 then expo x.1 j else 0 := fun j => by
  rw [facs_from, Nat.zero_add]
theorem facs_key {x : PT} (hx : FineT x) : keyO (effsO (facs x) fun _ => 0) = x.1 ∧ over (effsO (facs x) fun _ => 0) = false := by
  have h0 := facs_effO x 0
  have h1 := facs_effO x 1
  have h2 := facs_effO x 2
  have h3 := facs_effO x 3
  rw [if_pos (by omega)] at h0 h1 h2 h3
  have k0 := hx.pow 0 (by omega)
  have k1 := hx.pow 1 (by omega)
  have k2 := hx.pow 2 (by omega)
  have k3 := hx.pow 3 (by omega)
  unfold keyO over clamp
  rw [h0, h1, h2, h3, Nat.min_eq_left (by omega), Nat.min_eq_left (by omega), Nat.min_eq_left (by omega), Nat.min_eq_left (by omega)]
  refine ⟨key_expo x.1, ?_⟩
  simp only [Bool.or_eq_false_iff, decide_eq_false_iff_not]
  omega
/-! A term's text, its words with s between. -/

theorem join_cons2 {x : List UInt8} {r : List (List UInt8)} (hr : r ≠ []) (s : List UInt8) : Lib.join (x :: r) s = x ++ (s ++ Lib.join r s) := by
  obtain ⟨y, r, rfl⟩ := List.exists_cons_of_ne_nil hr
  rw [Lib.join_cons, Lib.join_cons]
  simp [Lib.joinTail, List.append_assoc]
def bodyW (s : List UInt8) (x : PT) : List UInt8 := Lib.join ((facs x).map Fa.text) s
theorem join_snoc (l : List Fa) (f : Fa) (s : List UInt8) : Lib.join ((l ++ [f]).map Fa.text) s = sepT (l.map fun g => (g, s)) ++ f.text := by
  induction l with
  | nil => simp [Lib.join_one, sepT]
  | cons x l ih =>
    rw [List.cons_append, List.map_cons, join_cons2 (by simp), ih]
    simp [sepT, List.append_assoc]
theorem body_read {x : PT} (hx : FineT x) {s b e R : List UInt8} (hs : Sep s) (hb : Bl b) (he : Bl e) (hR : EndR R) (many neg : Bool) :
    rdTerm (b ++ (bodyW s x ++ (e ++ R))) many neg = some ([sg neg x], R, many) := by
  obtain ⟨l, f, hl⟩ : ∃ l f, facs x = l ++ [f] := ⟨_, _, (List.dropLast_concat_getLast (facs_ne x)).symm⟩
  have hok := facs_ok hx
  have h := rdTerm_facs (l.map fun g => (g, s)) f b e R (fun y hy => by
    obtain ⟨g, hg, rfl⟩ := List.mem_map.1 hy
    exact ⟨hok g (by rw [hl]; simp [hg]), hs⟩) (hok f (by rw [hl]; simp)) hb he hR many neg
  have e1 : (l.map fun g => (g, s)).map (·.1) ++ [f] = facs x := by rw [hl, List.map_map]; congr 1; exact List.map_id' l
  rw [e1, facs_effC hx, (facs_key hx).1, (facs_key hx).2, Bool.or_false] at h
  have e2 : bodyW s x = sepT (l.map fun g => (g, s)) ++ f.text := by unfold bodyW; rw [hl, join_snoc]
  rw [e2, List.append_assoc, h]
  have : ¬ (sg neg x).2.1 = 0 := by
    have := hx.nz
    unfold sg
    simp only
    split <;> omega
  unfold oneT
  rw [if_neg this]
  rfl
theorem body_starts {x : PT} (hx : FineT x) (s X : List UInt8) : startsL (bodyW s x ++ X) = true := by
  obtain ⟨f, l, hl⟩ := List.exists_cons_of_ne_nil (facs_ne x)
  have hf := facs_ok hx f (by rw [hl]; simp)
  unfold bodyW
  rw [hl, List.map_cons, Lib.join_cons, List.append_assoc]
  exact fac_starts hf _
/-! Sums. -/

def sgC (neg : Bool) : UInt8 := if neg then 45 else 43
/-- The terms behind the first one: s between the words, x.1 on either side of a sign. -/
def tailG (s : List UInt8) (xs : List (List UInt8 × PT)) : List UInt8 := (xs.map fun x => x.1 ++ (sgC (sgB x.2) :: (x.1 ++ bodyW s x.2))).flatten
def tailW (s b : List UInt8) (xs : List PT) : List UInt8 := tailG s (xs.map fun x => (b, x))
def sumW (s b : List UInt8) : List PT → List UInt8
  | [] => [48]
  | x :: xs => (if sgB x then [45] else []) ++ (bodyW s x ++ tailW s b xs)
/-- The same, with e behind, without the blanks ahead. -/
def tailR (s e : List UInt8) : List (List UInt8 × PT) → List UInt8
  | [] => []
  | x :: xs => sgC (sgB x.2) :: (x.1 ++ (bodyW s x.2 ++ (tailG s xs ++ e)))
theorem tail_split {s e : List UInt8} (he : Bl e) (xs : List (List UInt8 × PT)) (hb : ∀ x ∈ xs, Bl x.1) : ∃ b', Bl b' ∧ tailG s xs ++ e = b' ++ tailR s e xs := by
  cases xs with
  | nil => exact ⟨e, he, by simp [tailG, tailR]⟩
  | cons x xs => exact ⟨x.1, hb x (by simp), by simp [tailG, tailR]⟩
theorem tailR_end (s e : List UInt8) (xs : List (List UInt8 × PT)) : EndR (tailR s e xs) := by
  cases xs with
  | nil => exact EndR.nil
  | cons x xs => exact EndR.cons (by unfold sgC; split <;> simp) _
theorem more_read {s e : List UInt8} (hs : Sep s) (he : Bl e) (xs : List (List UInt8 × PT)) (hx : ∀ x ∈ xs, Bl x.1 ∧ FineT x.2) (p : List PT) (many : Bool) :
    rdMore p (tailR s e xs) many = some (xs.foldl (fun p x => addL p [x.2]) p, many) := by
  induction xs generalizing p with
  | nil => rw [tailR, rdMore]; rfl
  | cons x xs ih =>
    obtain ⟨b', hb', e'⟩ := tail_split (s := s) he xs (fun y hy => (hx y (by simp [hy])).1)
    have h := body_read (hx x (by simp)).2 hs (hx x (by simp)).1 hb' (tailR_end s e xs) many (sgB x.2)
    rw [tailR, rdMore, e']
    have h45 : decide (sgC (sgB x.2) = 45) = sgB x.2 := by cases sgB x.2 <;> decide
    rw [if_pos (by unfold sgC; split <;> simp)]
    split
    · next hn => rw [h45, h] at hn; cases hn
    · next l r m hn =>
      rw [h45, h] at hn
      simp only [Option.some.injEq, Prod.mk.injEq] at hn
      obtain ⟨rfl, rfl, rfl⟩ := hn
      rw [sg_self, ih (fun y hy => hx y (by simp [hy]))]
      rfl
theorem sum_first {x : PT} (hx : FineT x) {s b0 X : List UInt8} (hb0 : Bl b0) : rdSum (b0 ++ ((if sgB x then [45] else []) ++ (bodyW s x ++ X))) = match rdTerm (bodyW s x ++ X) false (sgB x) with
    | none => none
    | some (l, r, m) => rdMore l r m := by
  have hst := body_starts hx s X
  unfold rdSum
  rw [skp_app hb0]
  cases hs : sgB x
  · simp only [Bool.false_eq_true, if_false, List.nil_append]
    rw [skp_starts hst, starts_not hst (.inr rfl)]
    simp only [Bool.false_eq_true, if_false]
    rfl
  · simp only [if_true]
    rw [skp_of (X := [45] ++ (bodyW s x ++ X)) (fun b hb => by cases hb; decide)]
    rw [show headIs ([45] ++ (bodyW s x ++ X)) 45 = true from rfl]
    simp only [if_true]
    rfl
theorem addL_snoc {p : List PT} {x : PT} (h : ∀ t ∈ p, x.1 < t.1) : addL p [x] = p ++ [x] := by
  induction p with
  | nil => rw [addL]; rfl
  | cons t p ih =>
    rw [addL, if_pos (h t (by simp)), ih (fun t' h' => h t' (by simp [h']))]
    rfl
theorem foldl_add {p xs : List PT} (h : Falls (p ++ xs)) : xs.foldl (fun p x => addL p [x]) p = p ++ xs := by
  induction xs generalizing p with
  | nil => simp
  | cons x xs ih =>
    have h1 : ∀ t ∈ p, x.1 < t.1 := fun t ht => (List.pairwise_append.1 h).2.2 t ht x (by simp)
    rw [List.foldl_cons, addL_snoc h1, ih (by simpa using h)]
    simp
theorem zero_sum {b0 e : List UInt8} (hb0 : Bl b0) (he : Bl e) : rdSum (b0 ++ ([48] ++ e)) = some ([], false) := by
  have hf : (Fa.nu 0 1).ok := ⟨by omega, rfl, by rw [Lib.decDigits]; simp, by rw [Lib.decDigits]; simp⟩
  have ht : (Fa.nu 0 1).text = [48] := by
    show ftext ((0 : Nat) : Int) ((1 : Nat) : Int) = [48]
    unfold ftext
    rw [itoa_nat, if_pos (by rfl), Lib.decDigits]
    rfl
  have h := rdTerm_facs [] (Fa.nu 0 1) [] e [] (fun x hx => by cases hx) hf rfl he EndR.nil false false
  rw [ht] at h
  simp only [sepT, List.map_nil, List.flatten_nil, List.nil_append, List.append_nil, Bool.false_eq_true, if_false, Bool.false_or] at h
  have hst : startsL ([48] ++ e) = true := rfl
  unfold rdSum
  rw [skp_app hb0, skp_starts hst, starts_not hst (.inr rfl)]
  simp only [Bool.false_eq_true, if_false]
  rw [h]
  have e1 : oneT (keyO (effsO [Fa.nu 0 1] fun _ => 0)) (effsC [Fa.nu 0 1] (1, 1)) = [] := by
    unfold oneT
    rw [if_pos (by decide)]
  have e2 : over (effsO [Fa.nu 0 1] fun _ => 0) = false := by decide
  rw [e1, e2]
  simp only
  rw [rdMore]
/-- A first term, and more behind it, each with its sign. -/
theorem first_read {x : PT} {xs : List (List UInt8 × PT)} (hx : FineT x) (hxs : ∀ y ∈ xs, Bl y.1 ∧ FineT y.2) {s b0 e : List UInt8} (hs : Sep s) (hb0 : Bl b0) (he : Bl e) :
    rdSum (b0 ++ ((if sgB x then [45] else []) ++ (bodyW s x ++ (tailG s xs ++ e)))) = some (xs.foldl (fun p y => addL p [y.2]) [x], false) := by
  obtain ⟨b', hb', e'⟩ := tail_split (s := s) he xs (fun y hy => (hxs y hy).1)
  have h := body_read (s := s) (b := []) hx hs rfl hb' (tailR_end s e xs) false (sgB x)
  rw [List.nil_append, ← e'] at h
  rw [sum_first hx hb0, h]
  simp only
  rw [more_read hs he xs hxs, sg_self]
/-- A sum's text, with blanks of any kind between its words, is read as it. -/
theorem sum_read {l : List PT} (hl : Falls l) (hx : ∀ x ∈ l, FineT x) {s b b0 e : List UInt8} (hs : Sep s) (hb : Bl b) (hb0 : Bl b0) (he : Bl e) : rdSum (b0 ++ (sumW s b l ++ e)) = some (l, false) := by
  cases l with
  | nil => exact zero_sum hb0 he
  | cons x xs =>
    have h := first_read (x := x) (xs := xs.map fun y => (b, y)) (hx x (by simp)) (fun y hy => by
      obtain ⟨z, hz, rfl⟩ := List.mem_map.1 hy
      exact ⟨hb, hx z (by simp [hz])⟩) hs hb0 he
    have h2 : sumW s b (x :: xs) ++ e = (if sgB x then [45] else []) ++ (bodyW s x ++ (tailG s (xs.map fun y => (b, y)) ++ e)) := by
      rw [sumW]; simp [List.append_assoc, tailW]
    rw [h2, h, List.foldl_map, foldl_add (p := [x]) (by simpa using hl)]
    rfl
theorem rdText_of {L : List UInt8} {l : List PT} (hL : L.length ≤ 65536) (h : rdSum L = some (l, false)) : rdText L = (l, 0) := by
  unfold rdText
  rw [if_neg (by omega), h]
  rfl
end Go.Proofs.YtdamegaedmckbaaGreatDoor
end
