/- Plain: a sum's text with other blanks; its terms the other way about; its terms twice, with the opposite sign between. No condition. A sum that came in, as a list. Condition: it may be. fine: are a sum's digits and powers few enough to be read? No further condition. -/
import Derived.Test.YtdamegaedmckbaaGreatDoorX23
import Derived.Test.YtdamegaedmckbaaGreatDoorX25
set_option linter.unusedSimpArgs false
set_option linter.unusedVariables false
section
namespace Go.Proofs.YtdamegaedmckbaaGreatDoor
open Go.RowKit

/-- Each blank of a text, another one. -/
def repl (bl L : List UInt8) : List UInt8 := (L.map fun b => if b = 32 then bl else [b]).flatten
theorem repl_app (bl a b : List UInt8) : repl bl (a ++ b) = repl bl a ++ repl bl b := by simp [repl]
theorem repl_cons (bl : List UInt8) (c : UInt8) (a : List UInt8) : repl bl (c :: a) = (if c = 32 then bl else [c]) ++ repl bl a := by simp [repl]
theorem repl_nil (bl : List UInt8) : repl bl [] = [] := rfl
theorem repl_id {bl a : List UInt8} (h : ∀ b ∈ a, b ≠ 32) : repl bl a = a := by
  induction a with
  | nil => rfl
  | cons c a ih =>
    rw [repl_cons, if_neg (h c (by simp)), ih (fun b hb => h b (by simp [hb]))]
    rfl
theorem dig_no {a : List UInt8} (h : a.all isDig = true) : ∀ b ∈ a, b ≠ 32 := by
  rintro b hb rfl
  rw [List.all_eq_true] at h
  have := h _ hb
  exact absurd this (by decide)
theorem dec_no (u : Nat) : ∀ b ∈ Lib.decDigits u, b ≠ 32 := dig_no (digitsB_all (dec_read u).1).1
theorem fac_no {f : Fa} (hf : f.ok) : ∀ b ∈ f.text, b ≠ 32 := by
  cases f with
  | nu p q =>
    show ∀ b ∈ ftext p q, b ≠ 32
    unfold ftext
    rw [itoa_nat, itoa_nat]
    intro b hb
    rcases List.mem_append.1 hb with hb | hb
    · exact dec_no p b hb
    · split at hb
      · cases hb
      · rcases List.mem_cons.1 hb with rfl | hb
        · decide
        · exact dec_no q b hb
  | le i n =>
    obtain ⟨hi, _, _⟩ := hf
    show ∀ b ∈ letterL i n, b ≠ 32
    unfold letterL
    intro b hb
    rcases List.mem_cons.1 hb with rfl | hb
    · match i, hi with
      | 0, _ => decide
      | 1, _ => decide
      | 2, _ => decide
      | 3, _ => decide
    · split at hb
      · rw [itoa_nat] at hb
        rcases List.mem_cons.1 hb with rfl | hb
        · decide
        · exact dec_no n b hb
      · cases hb
theorem repl_join {l : List Fa} (hl : ∀ f ∈ l, f.ok) (hn : l ≠ []) (bl : List UInt8) : repl bl (Lib.join (l.map Fa.text) [32]) = Lib.join (l.map Fa.text) bl := by
  induction l with
  | nil => exact absurd rfl hn
  | cons f l ih =>
    by_cases h : l = []
    · subst h
      simp only [List.map_cons, List.map_nil, Lib.join_one]
      exact repl_id (fac_no (hl f (by simp)))
    · have h' : l.map Fa.text ≠ [] := by simpa using h
      rw [List.map_cons, join_cons2 h', join_cons2 h', repl_app, repl_id (fac_no (hl f (by simp))), repl_app, ih (fun g hg => hl g (by simp [hg])) h]
      simp [repl]
theorem repl_body {x : PT} (hx : FineT x) (bl : List UInt8) : repl bl (bodyW [32] x) = bodyW bl x := repl_join (facs_ok hx) (facs_ne x) bl
theorem sgn_no (b : Bool) : sgC b ≠ 32 := by cases b <;> decide
theorem repl_tail {xs : List PT} (hx : ∀ x ∈ xs, FineT x) (bl : List UInt8) : repl bl (tailW [32] [32] xs) = tailW bl bl xs := by
  induction xs with
  | nil => rfl
  | cons x xs ih =>
    have e : ∀ s b : List UInt8, tailW s b (x :: xs) = (b ++ (sgC (sgB x) :: (b ++ bodyW s x))) ++ tailW s b xs := fun s b => by simp [tailW, tailG]
    have r32 : repl bl [32] = bl := by simp [repl]
    have rs : ∀ X, repl bl (sgC (sgB x) :: X) = sgC (sgB x) :: repl bl X := fun X => by rw [repl_cons, if_neg (sgn_no _)]; rfl
    rw [e, e, repl_app, ih (fun y hy => hx y (by simp [hy])), repl_app, r32, rs, repl_app, r32, repl_body (hx x (by simp))]
theorem repl_sum {l : List PT} (hx : ∀ x ∈ l, FineT x) (bl : List UInt8) : repl bl (sumW [32] [32] l) = sumW bl bl l := by
  cases l with
  | nil => rfl
  | cons x xs =>
    rw [sumW, sumW, repl_app, repl_app, repl_tail (fun y hy => hx y (by simp [hy])), repl_body (hx x (by simp))]
    congr 1
    split <;> rfl
/-! The other way about. -/

theorem addL_front {p : List PT} {x : PT} (h : ∀ t ∈ p, t.1 < x.1) : addL p [x] = x :: p := by
  cases p with
  | nil => rw [addL]
  | cons t p =>
    have := h t (by simp)
    rw [addL, if_neg (by omega), if_pos this, addL_nil]
theorem foldl_front {p xs : List PT} (h : Falls (xs.reverse ++ p)) : xs.foldl (fun p x => addL p [x]) p = xs.reverse ++ p := by
  induction xs generalizing p with
  | nil => rfl
  | cons x xs ih =>
    rw [List.reverse_cons, List.append_assoc] at h
    have h1 : ∀ t ∈ p, t.1 < x.1 := by
      have := (List.pairwise_append.1 h).2.1
      exact (List.pairwise_cons.1 this).1
    rw [List.foldl_cons, addL_front h1, show x :: p = [x] ++ p from rfl, ih h, List.reverse_cons, List.append_assoc]
/-- The terms the other way about. -/
theorem back_read {l : List PT} (hl : Falls l) (hx : ∀ x ∈ l, FineT x) (hn : l ≠ []) : rdSum (sumW [32] [] l.reverse) = some (l, false) := by
  obtain ⟨x, xs, e⟩ := List.exists_cons_of_ne_nil (show l.reverse ≠ [] by simpa using hn)
  have hl' : l = xs.reverse ++ [x] := by rw [← List.reverse_reverse l, e, List.reverse_cons]
  have hx' : ∀ y ∈ x :: xs, FineT y := fun y hy => hx y (by rw [← List.mem_reverse, e]; exact hy)
  have h := first_read (x := x) (xs := xs.map fun y => (([] : List UInt8), y)) (s := [32]) (b0 := []) (e := []) (hx' x (by simp)) (fun y hy => by
    obtain ⟨z, hz, rfl⟩ := List.mem_map.1 hy
    exact ⟨rfl, hx' z (by simp [hz])⟩) (.inl ⟨rfl, by simp⟩) rfl rfl
  rw [e, sumW]
  simp only [List.nil_append, List.append_nil] at h
  unfold tailW
  rw [h, List.foldl_map, foldl_front (p := [x]) (by rw [← hl']; exact hl), ← hl']
/-! Twice, with the opposite sign between. -/

def negT (x : PT) : PT := (x.1, -x.2.1, x.2.2)
theorem addC_neg (c : PC) : (addC c (-c.1, c.2)).1 = 0 := by
  unfold addC lowP
  simp only
  have : c.1 * c.2 + -c.1 * c.2 = 0 := by rw [Int.neg_mul]; omega
  rw [this]
  simp
theorem addL_last {p : List PT} {x : PT} (h : ∀ t ∈ p, x.1 < t.1) : addL (p ++ [x]) [negT x] = p := by
  induction p with
  | nil =>
    rw [List.nil_append, addL, if_neg (by unfold negT; simp), if_neg (by unfold negT; simp), if_pos (show (addC x.2 (negT x).2).1 = 0 from addC_neg x.2), addL]
  | cons t p ih =>
    have h1 := h t (by simp)
    rw [List.cons_append, addL, if_pos (by exact h1), ih (fun t' h' => h t' (by simp [h']))]
theorem foldl_gone : ∀ (n : Nat) {l : List PT}, l.length = n → Falls l → (l.reverse.map negT).foldl (fun p x => addL p [x]) l = []
  | 0, l, hn, _ => by
    have : l = [] := List.eq_nil_of_length_eq_zero hn
    subst this; rfl
  | n + 1, l, hn, hl => by
    obtain ⟨a, x, rfl⟩ : ∃ a x, l = a ++ [x] := ⟨_, _, (List.dropLast_concat_getLast (by intro e; subst e; simp at hn)).symm⟩
    rw [List.length_append, List.length_singleton] at hn
    obtain ⟨h1, h2, h3⟩ := List.pairwise_append.1 hl
    rw [List.reverse_append, List.reverse_singleton, List.singleton_append, List.map_cons, List.foldl_cons, addL_last (fun t ht => h3 t ht x (by simp))]
    exact foldl_gone n (by omega) h1
theorem fine_neg {x : PT} (hx : FineT x) : FineT (negT x) := by
  obtain ⟨h1, h2, h3, h4, h5⟩ := hx
  refine ⟨⟨h1.pos, ?_⟩, ?_, ?_, h4, h5⟩
  · show Int.gcd (-x.2.1) x.2.2 = 1
    rw [Int.neg_gcd]; exact h1.red
  · show ¬ -x.2.1 = 0; omega
  · show (Lib.decDigits (-x.2.1).natAbs).length ≤ 200
    rw [Int.natAbs_neg]; exact h3
theorem sgB_neg {x : PT} (h : x.2.1 ≠ 0) : sgB (negT x) = !sgB x := by
  unfold sgB negT
  simp only
  by_cases h1 : x.2.1 < 0
  · rw [decide_eq_true h1, decide_eq_false (by omega)]; rfl
  · rw [decide_eq_false h1, decide_eq_true (by omega)]; rfl
/-- What stands behind the sum: its terms the other way about, with the opposite sign. -/
def oppW (l : List PT) : List UInt8 := tailW [32] [] (l.reverse.map negT)
theorem twice_read {l : List PT} (hl : Falls l) (hx : ∀ x ∈ l, FineT x) (hn : l ≠ []) : rdSum (sumW [32] [32] l ++ oppW l) = some ([], false) := by
  obtain ⟨x, xs, rfl⟩ := List.exists_cons_of_ne_nil hn
  have h := first_read (x := x) (xs := (xs.map fun y => (([32] : List UInt8), y)) ++ (((x :: xs).reverse.map negT).map fun y => (([] : List UInt8), y))) (s := [32]) (b0 := []) (e := []) (hx x (by simp)) (fun y hy => by
    rcases List.mem_append.1 hy with hy | hy
    · obtain ⟨z, hz, rfl⟩ := List.mem_map.1 hy
      exact ⟨rfl, hx z (by simp [hz])⟩
    · obtain ⟨z, hz, rfl⟩ := List.mem_map.1 hy
      obtain ⟨u, hu, rfl⟩ := List.mem_map.1 hz
      exact ⟨rfl, fine_neg (hx u (List.mem_reverse.1 hu))⟩) (.inl ⟨rfl, by simp⟩) rfl rfl
  have e : sumW [32] [32] (x :: xs) ++ oppW (x :: xs) = [] ++ ((if sgB x then [45] else []) ++ (bodyW [32] x ++ (tailG [32] ((xs.map fun y => (([32] : List UInt8), y)) ++ (((x :: xs).reverse.map negT).map fun y => (([] : List UInt8), y))) ++ []))) := by
    rw [sumW]
    unfold oppW tailW tailG
    simp only [List.nil_append, List.append_nil, List.map_append, List.flatten_append, List.append_assoc]
  have h1 := foldl_add (p := [x]) (xs := xs) (by simpa using hl)
  have h2 := foldl_gone _ rfl hl
  rw [e, h, List.foldl_append]
  have e1 : (xs.map fun y => (([32] : List UInt8), y)).foldl (fun p y => addL p [y.2]) [x] = x :: xs := by rw [List.foldl_map]; exact h1
  have e2 : (((x :: xs).reverse.map negT).map fun y => (([] : List UInt8), y)).foldl (fun p y => addL p [y.2]) (x :: xs) = [] := by rw [List.foldl_map]; exact h2
  rw [e1, e2]
/-! How long the texts are. -/

theorem fac_len {f : Fa} (hf : f.ok) : f.text.length ≤ 401 := by
  cases f with
  | nu p q =>
    obtain ⟨_, _, h1, h2⟩ := hf
    show (ftext p q).length ≤ 401
    unfold ftext
    rw [itoa_nat, itoa_nat, List.length_append]
    split
    · simp only [List.length_nil]; omega
    · simp only [List.length_cons]; omega
  | le i n =>
    obtain ⟨_, _, h2⟩ := hf
    have : (Lib.decDigits n).length ≤ 4 := dec_few (by omega) (by omega)
    show (letterL i n).length ≤ 401
    unfold letterL
    rw [itoa_nat]
    split
    · simp only [List.length_cons]; omega
    · simp
theorem join_len (l : List Fa) (s : List UInt8) (A : Nat) (h : ∀ f ∈ l, f.text.length ≤ A) : (Lib.join (l.map Fa.text) s).length ≤ l.length * (A + s.length) := by
  induction l with
  | nil => simp [Lib.join_nil]
  | cons f l ih =>
    have h1 := h f (by simp)
    have h2 := ih fun g hg => h g (by simp [hg])
    by_cases hl : l = []
    · subst hl
      simp only [List.map_cons, List.map_nil, Lib.join_one, List.length_cons, List.length_nil]
      omega
    · rw [List.map_cons, join_cons2 (by simpa using hl), List.length_append, List.length_append, List.length_cons, Nat.add_mul]
      omega
theorem letF_short {m : Nat → Nat} (hm : ∀ i, i < 4 → m i ≤ 1000) : ∀ k, k ≤ 4 → ∀ f ∈ letF m k, f.text.length ≤ 6 := by
  intro k
  induction k with
  | zero => intro _ f hf; cases hf
  | succ k ih =>
    intro hk f hf
    rw [letF, List.mem_append] at hf
    rcases hf with hf | hf
    · exact ih (by omega) f hf
    · split at hf
      · next h =>
        simp only [List.mem_singleton] at hf
        subst hf
        have h2 := hm k (by omega)
        have : (Lib.decDigits (m k)).length ≤ 4 := dec_few (by omega) (by omega)
        show (letterL k (m k)).length ≤ 6
        unfold letterL
        rw [itoa_nat]
        split
        · simp only [List.length_cons]; omega
        · simp
      · cases hf
theorem letF_few (m : Nat → Nat) : (letF m 4).length ≤ 4 := by
  have := lets_len m 4
  rw [← letF_text, List.length_map] at this
  exact this
theorem body_len {x : PT} (hx : FineT x) {s : List UInt8} (hs : s.length ≤ 3) : (bodyW s x).length ≤ 440 := by
  have h1 := join_len (letF (expo x.1) 4) s 6 (letF_short hx.pow 4 (by omega))
  have h2 := letF_few (expo x.1)
  have h3 : (letF (expo x.1) 4).length * (6 + s.length) ≤ 4 * 9 := Nat.mul_le_mul h2 (by omega)
  have h4 := fac_len (f := .nu x.2.1.natAbs x.2.2.natAbs) ⟨by have := hx.c.pos; omega, hx.c.red, hx.top, hx.low⟩
  unfold bodyW facs
  split
  · by_cases he : letF (expo x.1) 4 = []
    · rw [he]
      simp only [List.map_cons, List.map_nil, Lib.join_one]
      omega
    · rw [List.map_cons, join_cons2 (by simpa using he), List.length_append, List.length_append]
      omega
  · omega
theorem tail_len {xs : List (List UInt8 × PT)} {s : List UInt8} (hs : s.length ≤ 3) (hx : ∀ y ∈ xs, y.1.length ≤ 3 ∧ FineT y.2) : (tailG s xs).length ≤ xs.length * 447 := by
  induction xs with
  | nil => simp [tailG]
  | cons x xs ih =>
    have h1 := ih fun y hy => hx y (by simp [hy])
    obtain ⟨h2, h3⟩ := hx x (by simp)
    have h4 := body_len h3 hs
    have e : tailG s (x :: xs) = (x.1 ++ (sgC (sgB x.2) :: (x.1 ++ bodyW s x.2))) ++ tailG s xs := by simp [tailG]
    rw [e]
    simp only [List.length_append, List.length_cons]
    omega
theorem sum_len {l : List PT} {s b : List UInt8} (hs : s.length ≤ 3) (hb : b.length ≤ 3) (hx : ∀ y ∈ l, FineT y) : (sumW s b l).length ≤ 1 + l.length * 447 := by
  cases l with
  | nil => simp [sumW]
  | cons x xs =>
    have h1 := body_len (hx x (by simp)) hs
    have h2 := tail_len (xs := xs.map fun y => (b, y)) hs fun y hy => by
      obtain ⟨z, hz, rfl⟩ := List.mem_map.1 hy
      exact ⟨hb, hx z (by simp [hz])⟩
    rw [List.length_map] at h2
    rw [sumW]
    unfold tailW
    simp only [List.length_append, List.length_cons]
    split <;> simp <;> omega
end Go.Proofs.YtdamegaedmckbaaGreatDoor
end
section
namespace Go.Proofs.YtdamegaedmckbaaGreatDoor
open Go.RowKit

/-- A term, as plain numbers. -/
def tmX (t : Tm) : PT := (key4 t.m0 t.m1 t.m2 t.m3, (if t.g1 then -(val t.d1 : Int) else (val t.d1 : Int)), (val t.d2 : Int))
def lst (p : Nat → Tm) (n : Nat) : List PT := (List.range n).map fun i => tmX (p i)
theorem lst_len (p : Nat → Tm) (n : Nat) : (lst p n).length = n := by simp [lst]
theorem lst_get (p : Nat → Tm) {n i : Nat} (h : i < n) : (lst p n)[i]? = some (tmX (p i)) := by
  unfold lst
  rw [List.getElem?_map, List.getElem?_range h]
  rfl
theorem tmX_cw {t : Tm} (h : TOk t) : CW (tmX t).2 ∧ (tmX t).2.1 ≠ 0 := by
  obtain ⟨⟨o1, o2, e2, hne, hg⟩, hd⟩ := h
  have h1 := val_pos_of_canon o1.1 hd
  have h2 := val_pos_of_canon o2.1 hne
  refine ⟨⟨by show (0 : Int) < (val t.d2 : Int); omega, ?_⟩, ?_⟩
  · show Int.gcd (if t.g1 then -(val t.d1 : Int) else (val t.d1 : Int)) (val t.d2 : Int) = 1
    split
    · rw [Int.neg_gcd]; simpa [Int.gcd] using hg
    · simpa [Int.gcd] using hg
  · show (if t.g1 then -(val t.d1 : Int) else (val t.d1 : Int)) ≠ 0
    split <;> omega
theorem tmX_is {t : Tm} (h : TOk t) : TmIs t (tmX t) := by
  obtain ⟨⟨o1, o2, e2, hne, hg⟩, hd⟩ := h
  have h1 := val_pos_of_canon o1.1 hd
  refine ⟨?_, ?_, ?_, ?_, rfl⟩
  · show t.g1 = decide ((if t.g1 then -(val t.d1 : Int) else (val t.d1 : Int)) < 0)
    cases t.g1
    · rw [if_neg (by decide)]; simp
    · rw [if_pos rfl]; simp; omega
  · show t.d1 = dg (if t.g1 then -(val t.d1 : Int) else (val t.d1 : Int)).natAbs
    have : (if t.g1 then -(val t.d1 : Int) else (val t.d1 : Int)).natAbs = val t.d1 := by split <;> omega
    rw [this, dg_of_canon o1.1]
  · show t.g2 = decide ((val t.d2 : Int) < 0)
    rw [e2]; simp
  · show t.d2 = dg (val t.d2 : Int).natAbs
    rw [Int.natAbs_natCast, dg_of_canon o2.1]
theorem tm_key {w : World} {s t : Tm} (hs : RdTm w s) (ht : RdTm w t) (h : lexF s.mono t.mono < 0) : (tmX s).1 < (tmX t).1 := by
  unfold Tm.mono at h
  rw [lexF_key hs.s0 hs.s1 hs.s2 hs.s3 ht.s0 ht.s1 ht.s2 ht.s3, cmpI_cast] at h
  show key4 s.m0 s.m1 s.m2 s.m3 < key4 t.m0 t.m1 t.m2 t.m3
  split at h
  · assumption
  · split at h <;> omega
theorem lst_falls {w : World} {a : Option Addr} {n c : Nat} {p : Nat → Tm} (hp : RdP w a n c p) (hok : POk p n) : ∀ j, j < n → ∀ i, i < j → (tmX (p j)).1 < (tmX (p i)).1 := by
  intro j
  induction j with
  | zero => intro _ i hi; omega
  | succ j ih =>
    intro hj i hi
    have h1 := tm_key (hp.tm (j + 1) hj) (hp.tm j (by omega)) ((hok (j + 1) hj).2 (by omega))
    rcases Nat.lt_or_ge i j with h | h
    · exact Nat.lt_trans h1 (ih (by omega) i h)
    · obtain rfl : i = j := by omega
      exact h1
theorem arg_pw {w : World} {a : Option Addr} {n c : Nat} {p : Nat → Tm} (hp : RdP w a n c p) (hok : POk p n) : PW (lst p n) := by
  have hmem : ∀ t ∈ lst p n, ∃ i, i < n ∧ t = tmX (p i) := fun t ht => by
    obtain ⟨i, hi, rfl⟩ := List.mem_map.1 ht
    exact ⟨i, List.mem_range.1 hi, rfl⟩
  refine ⟨?_, fun t ht => ?_, fun t ht => ?_⟩
  · rw [Falls, List.pairwise_iff_getElem]
    intro i j hi hj hij
    rw [lst_len] at hi hj
    have e1 : (lst p n)[i]'(by rw [lst_len]; exact hi) = tmX (p i) := by simp [lst]
    have e2 : (lst p n)[j]'(by rw [lst_len]; exact hj) = tmX (p j) := by simp [lst]
    rw [e1, e2]
    exact lst_falls hp hok j hj i hij
  · obtain ⟨i, hi, rfl⟩ := hmem t ht
    exact tmX_cw (hok i hi).1
  · obtain ⟨i, hi, rfl⟩ := hmem t ht
    have h := hp.tm i hi
    exact key4_lt h.s0 h.s1 h.s2 h.s3
theorem arg_at {w : World} {a : Option Addr} {n c : Nat} {p : Nat → Tm} (hp : RdP w a n c p) (hok : POk p n) (hnl : a = none → c = 0) : PolyAt w 0 a n c (lst p n) := by
  refine ⟨lst_len p n, .inr fun x _ => Nat.zero_le _, hnl, p, hp, fun i x hx => ?_⟩
  have hi : i < n := by
    rcases Nat.lt_or_ge i n with h | h
    · exact h
    · rw [List.getElem?_eq_none (by rw [lst_len]; exact h)] at hx; cases hx
  rw [lst_get p hi] at hx
  obtain rfl := Option.some.inj hx
  exact ⟨tmX_is (hok i hi).1, .inr fun x _ => Nat.zero_le _, .inr fun x _ => Nat.zero_le _⟩
theorem arg_few {w : World} {a : Option Addr} {n c : Nat} {p : Nat → Tm} (hp : RdP w a n c p) (hok : POk p n) {K : Nat} (hK : ∀ i, i < n → (p i).n1 ≤ K ∧ (p i).n2 ≤ K) : FewL K (lst p n) := by
  intro t ht
  obtain ⟨i, hi, rfl⟩ := List.mem_map.1 ht
  have hi := List.mem_range.1 hi
  have h1 := tmX_is (hok i hi).1
  have h2 := hp.tm i hi
  rw [← h1.d1, ← h1.d2, h2.top.len, h2.low.len]
  exact hK i hi
/-- Few enough digits, few enough letters. -/
def fineAt (p : Nat → Tm) (i : Nat) : Prop := (p i).n1 ≤ 20 ∧ (p i).n2 ≤ 20 ∧ (p i).m0 ≤ 1000 ∧ (p i).m1 ≤ 1000 ∧ (p i).m2 ≤ 1000 ∧ (p i).m3 ≤ 1000
def FineP (p : Nat → Tm) (n : Nat) : Prop := ∀ i, i < n → fineAt p i
theorem arg_fine {w : World} {a : Option Addr} {n c : Nat} {p : Nat → Tm} (hp : RdP w a n c p) (hok : POk p n) (hf : FineP p n) : ∀ t ∈ lst p n, FineT t := by
  intro t ht
  obtain ⟨i, hi, rfl⟩ := List.mem_map.1 ht
  have hi := List.mem_range.1 hi
  have h1 := tmX_is (hok i hi).1
  have h2 := hp.tm i hi
  obtain ⟨h3, h4⟩ := tmX_cw (hok i hi).1
  obtain ⟨f1, f2, f3, f4, f5, f6⟩ := hf i hi
  refine ⟨h3, h4, ?_, ?_, fun k hk => ?_⟩
  · have := dec_dg (u := (tmX (p i)).2.1.natAbs) (K := 20) (by omega) (by rw [← h1.d1, h2.top.len]; exact f1)
    omega
  · have := dec_dg (u := (tmX (p i)).2.2.natAbs) (K := 20) (by omega) (by rw [← h1.d2, h2.low.len]; exact f2)
    omega
  · have e : expo (tmX (p i)).1 = quadN (p i).m0 (p i).m1 (p i).m2 (p i).m3 := expo_key h2.s1 h2.s2 h2.s3
    rw [e]
    match k, hk with
    | 0, _ => exact f3
    | 1, _ => exact f4
    | 2, _ => exact f5
    | 3, _ => exact f6
end Go.Proofs.YtdamegaedmckbaaGreatDoor
end
section
namespace Go.Proofs.YtdamegaedmckbaaGreatDoor
open Go.RowKit

def mAt (t : Tm) : Nat → Nat := quadN t.m0 t.m1 t.m2 t.m3
theorem fineP_succ {p : Nat → Tm} {i : Nat} (h : FineP p i) (h1 : fineAt p i) : FineP p (i + 1) := fun j hj => by
  rcases Nat.lt_or_ge j i with h2 | h2
  · exact h j h2
  · obtain rfl : j = i := by omega
    exact h1
set_option maxRecDepth 100000 in
set_option maxHeartbeats 2000000 in
theorem fine_c (w : World) (a : Option Addr) (n c : Nat) (p : Nat → Tm) (hp : RdP w a n c p) (r : Bool) (hr : FineP p n ↔ r = true) :
    Calls Tryz.prog 24 #[.slice a n c] w fun e w' => e = .returned (.bool r) ∧ Below w.heap.size w w' := by
  have hn := hp.few
  have HR := Lib.hid hr
  clear hr
  go_enter Tryz.func24, Tryz.ntmps24
  go_wp2_with fail
  go_loopw [3] (fun v wr => ∃ i : Nat, i ≤ n ∧ v = .int .i64 i ∧ Below w.heap.size w wr ∧ Hid (FineP p i)) (fun v _ => n - (intOf v).toNat)
  case atStart => exact ⟨0, Nat.zero_le _, rfl, Below.refl _ _, Lib.hid (fun j hj => absurd hj (Nat.not_lt_zero _))⟩
  case round =>
    obtain ⟨i, hi, rfl, HBr, hf⟩ := hrel
    have hsz := HBr.size
    by_cases hlt : i < n
    · obtain ⟨b, o, rfl, hcl⟩ := hp.cell.resolve_left (by omega)
      have hpr := hp.keep HBr
      obtain ⟨e0, e1, e2, e3, e4, e5, e6, e7⟩ := hpr.at hlt
      have hrt := hpr.tm i hlt
      have q1 := hrt.top.few
      have q2 := hrt.low.few
      clear hcl
      by_cases h1 : 20 < (p i).n1
      · have hr0 : r = false := by
          cases r
          · rfl
          · exact absurd ((HR.out.2 rfl) i hlt).1 (by omega)
        subst hr0
        clear hf HR
        go_wp2_with fail
        go_ret
        exact ⟨rfl, by go_grown⟩
      · by_cases h2 : 20 < (p i).n2
        · have hr0 : r = false := by
            cases r
            · rfl
            · exact absurd ((HR.out.2 rfl) i hlt).2.1 (by omega)
          subst hr0
          clear hf HR
          go_wp2_with fail
          go_ret
          exact ⟨rfl, by go_grown⟩
        · go_wp2_with fail
          obtain ⟨wp, rfl⟩ : ∃ wp, wp = wr := ⟨_, rfl⟩
          have hmI : Hid (∀ k, k < 4 → 1000 < mAt (p i) k → r = false) := Lib.hid fun k hk hm => by
            cases r
            · rfl
            · obtain ⟨_, _, f3, f4, f5, f6⟩ := HR.out.2 rfl i hlt
              exfalso
              match k, hk with
              | 0, _ => exact absurd f3 (by show ¬ (p i).m0 ≤ 1000; exact Nat.not_le.2 hm)
              | 1, _ => exact absurd f4 (by show ¬ (p i).m1 ≤ 1000; exact Nat.not_le.2 hm)
              | 2, _ => exact absurd f5 (by show ¬ (p i).m2 ≤ 1000; exact Nat.not_le.2 hm)
              | 3, _ => exact absurd f6 (by show ¬ (p i).m3 ≤ 1000; exact Nat.not_le.2 hm)
          have hsm : Hid (∀ k, k < 4 → mAt (p i) k < 65536) := Lib.hid fun k hk => by
            match k, hk with
            | 0, _ => exact hrt.s0
            | 1, _ => exact hrt.s1
            | 2, _ => exact hrt.s2
            | 3, _ => exact hrt.s3
          have hcM : Hid (∀ k, k < 4 → wp.cell? ⟨b, o + i * 8 + 4 + k, none⟩ = some (.int .u16 (mAt (p i) k))) := Lib.hid fun k hk => by
            match k, hk with
            | 0, _ => exact e4
            | 1, _ => exact e5
            | 2, _ => exact e6
            | 3, _ => exact e7
          have hF1 : Hid ((∀ k, k < 4 → mAt (p i) k ≤ 1000) → FineP p (i + 1)) := Lib.hid fun h => fineP_succ hf.out ⟨by omega, by omega, h 0 (by omega), h 1 (by omega), h 2 (by omega), h 3 (by omega)⟩
          clear e0 e1 e2 e3 e4 e5 e6 e7 q1 q2 hrt h1 h2 hpr hf
          go_loopw [4] (fun v wk => ∃ k : Nat, k ≤ 4 ∧ v = .int .i64 k ∧ wk = wp ∧ Hid (∀ j, j < k → mAt (p i) j ≤ 1000)) (fun v _ => 4 - (intOf v).toNat)
          case atStart => exact ⟨0, by omega, rfl, rfl, Lib.hid (fun j hj => absurd hj (Nat.not_lt_zero _))⟩
          case round =>
            obtain ⟨k, hk, rfl, rfl, hg⟩ := hrel
            by_cases hk4 : k < 4
            · have hck := hcM.out k hk4
              have hs := hsm.out k hk4
              have hi1 := hmI.out k hk4
              have hgs : Hid (mAt (p i) k ≤ 1000 → ∀ j, j < k + 1 → mAt (p i) j ≤ 1000) := Lib.hid fun hm j hj => by
                rcases Nat.lt_or_ge j k with h2 | h2
                · exact hg.out j h2
                · obtain rfl : j = k := by omega
                  exact hm
              generalize mAt (p i) k = m at *
              have HI := Lib.hid hi1
              clear hi1 hg
              by_cases hm : 1000 < m
              · obtain rfl : r = false := HI.out hm
                go_wp2_with fail
                go_ret
                exact ⟨rfl, by first | assumption | go_grown⟩
              · go_wp2_with fail
                go_roundw
                case rel => exact ⟨k + 1, by omega, by go_num, by first | rfl | trivial, Lib.hid (hgs.out (by omega))⟩
                case measure => (first | (simp [intOf]; omega) | (simp [intOf]; done))
            · obtain rfl : k = 4 := by omega
              go_wp2_with fail
              go_roundw
              case rel => exact ⟨i + 1, by omega, by go_num, by first | assumption | go_grown, Lib.hid (hF1.out hg.out)⟩
              case measure => (first | (simp [intOf]; omega) | (simp [intOf]; done))
    · obtain rfl : i = n := by omega
      obtain rfl : r = true := HR.out.1 hf.out
      go_wp2_with fail
      go_ret
      exact ⟨rfl, HBr⟩
end Go.Proofs.YtdamegaedmckbaaGreatDoor
end
