/- Plain: two texts, one behind the other with a sign between, are read as both sums. No condition. -/
import Derived.Test.YtdamegaedmckbaaGreatDoorX40
import Derived.Test.YtdamegaedmckbaaGreatDoorX37
set_option linter.unusedSimpArgs false
set_option linter.unusedVariables false
section
namespace Go.Proofs.YtdamegaedmckbaaGreatDoor
open Go.RowKit

/-! Whatever stands behind. -/

structure Cut (R : List UInt8) : Prop where
  dig : NoDig R
  h47 : headIs R 47 = false
  h94 : headIs R 94 = false
  fin : EndR (skp R)
theorem Stop.cut {R : List UInt8} (h : Stop R) (he : EndR (skp R)) : Cut R := ⟨h.noDig, h.head (by decide), h.head (by decide), he⟩
theorem Cut.nil : Cut [] := Stop.cut (fun b hb => by cases hb) EndR.nil
theorem tw_app {L R : List UInt8} (hR : NoDig R) : (L ++ R).takeWhile isDig = L.takeWhile isDig ∧ (L ++ R).dropWhile isDig = L.dropWhile isDig ++ R := by
  induction L with
  | nil =>
    cases R with
    | nil => exact ⟨rfl, rfl⟩
    | cons b r => simp [List.takeWhile, List.dropWhile, hR b rfl]
  | cons b r ih =>
    cases hb : isDig b
    · simp [List.takeWhile, List.dropWhile, hb]
    · simp [List.takeWhile, List.dropWhile, hb, ih.1, ih.2]
theorem head_app {L R : List UInt8} {c : Int} (hR : headIs R c = false) : headIs (L ++ R) c = headIs L c := by
  cases L with
  | nil => exact hR
  | cons b r => rfl
theorem tail_app {L R : List UInt8} {c : Int} (h : headIs L c = true) : (L ++ R).tail = L.tail ++ R := by
  cases L with
  | nil => cases h
  | cons b r => rfl
theorem rdNum_map {R : List UInt8} (hR : Cut R) (L : List UInt8) (m many : Bool) : rdNum (L ++ R) (m || many) = (rdNum L many).map fun x => (x.1, x.2.1 ++ R, m || x.2.2) := by
  obtain ⟨h1, h2⟩ := tw_app (L := L) hR.dig
  unfold rdNum
  rw [h1, h2]
  split
  · simp [Bool.or_assoc]
  · rfl
theorem rdPos_map {R : List UInt8} (hR : Cut R) (L : List UInt8) (m many : Bool) : rdPos (L ++ R) (m || many) = (rdPos L many).map fun x => (x.1, x.2.1 ++ R, m || x.2.2) := by
  unfold rdPos
  rw [rdNum_map hR]
  cases rdNum L many with
  | none => rfl
  | some x =>
    obtain ⟨d, r, m'⟩ := x
    simp only [Option.map_some]
    split <;> rfl
theorem rdPow_map {R : List UInt8} (hR : Cut R) (L : List UInt8) (m many : Bool) : rdPow (L ++ R) (m || many) = (rdPow L many).map fun x => (x.1, x.2.1 ++ R, m || x.2.2) := by
  unfold rdPow
  rw [head_app hR.h94]
  cases h : headIs L 94
  · rfl
  · simp only [if_true]
    rw [tail_app h, rdPos_map hR]
    cases rdPos L.tail many with
    | none => rfl
    | some x =>
      obtain ⟨d, r, m'⟩ := x
      simp only [Option.map_some]
      split <;> simp
theorem rdFrac_map {R : List UInt8} (hR : Cut R) (L : List UInt8) (m many : Bool) : rdFrac (L ++ R) (m || many) = (rdFrac L many).map fun x => (x.1, x.2.1 ++ R, m || x.2.2) := by
  unfold rdFrac
  rw [rdNum_map hR]
  cases rdNum L many with
  | none => rfl
  | some x =>
    obtain ⟨d, r, m'⟩ := x
    simp only [Option.map_some]
    rw [head_app hR.h47]
    cases h : headIs r 47
    · rfl
    · simp only [if_true]
      rw [tail_app h, rdPos_map hR]
      cases rdPos r.tail m' with
      | none => rfl
      | some x => rfl
/-- What is read, and what stands behind it: behind blanks it is passed over as well. -/
def glue (L R : List UInt8) : List UInt8 := if L = [] then skp R else L ++ R
theorem glue_ne {L R : List UInt8} (h : L ≠ []) : glue L R = L ++ R := if_neg h
theorem glue_nil (R : List UInt8) : glue [] R = skp R := if_pos rfl
theorem skp_glue (L R : List UInt8) : skp (L ++ R) = glue (skp L) R := by
  induction L with
  | nil => exact (glue_nil R).symm
  | cons b r ih =>
    have e : ∀ X : List UInt8, skp (b :: X) = if isBlk b then skp X else b :: X := fun X => by
      unfold skp; rw [List.dropWhile_cons]
    rw [List.cons_append, e, e]
    split
    · exact ih
    · rw [glue_ne (by simp)]; rfl
theorem starts_glue {R : List UInt8} (hR : Cut R) (L : List UInt8) : startsL (glue L R) = startsL L := by
  cases L with
  | nil => rw [glue_nil, (end_not hR.fin).2]; rfl
  | cons b r => rfl
theorem head_glue {R : List UInt8} (hR : Cut R) (L : List UInt8) : headIs (glue L R) 42 = headIs L 42 := by
  cases L with
  | nil => rw [glue_nil, (end_not hR.fin).1]; rfl
  | cons b r => rfl
/-- A term under way: another number ahead, more behind, something too much ahead. -/
def mapTS (g : PC → PC) (m : Bool) (R : List UInt8) (s : TS) : TS := ⟨g s.c, s.o, s.L ++ R, m || s.many⟩
def gluTS (g : PC → PC) (m : Bool) (R : List UInt8) (s : TS) : TS := ⟨g s.c, s.o, glue s.L R, m || s.many⟩
theorem rdFactor_map {g : PC → PC} (hg : ∀ c d, g (mulC c d) = mulC (g c) d) {R : List UInt8} (hR : Cut R) (m : Bool) (s : TS) (hs : s.L ≠ []) : rdFactor (mapTS g m R s) = (rdFactor s).map (mapTS g m R) := by
  obtain ⟨c, o, L, many⟩ := s
  simp only at hs
  obtain ⟨b, r, rfl⟩ := List.exists_cons_of_ne_nil hs
  unfold mapTS rdFactor
  simp only [List.cons_append]
  cases h : letterOf b with
  | some i =>
    simp only
    rw [rdPow_map hR]
    cases rdPow r many with
    | none => rfl
    | some x => rfl
  | none =>
    simp only
    have := rdFrac_map hR (b :: r) m many
    rw [List.cons_append] at this
    rw [this]
    cases rdFrac (b :: r) many with
    | none => rfl
    | some x =>
      simp only [Option.map_some]
      rw [hg]
theorem rdLoop_map {g : PC → PC} (hg : ∀ c d, g (mulC c d) = mulC (g c) d) {R : List UInt8} (hR : Cut R) (m : Bool) : ∀ (n : Nat) (s : TS), s.L.length ≤ n → rdLoop (gluTS g m R s) = (rdLoop s).map (gluTS g m R) := by
  intro n
  induction n with
  | zero =>
    intro s hn
    have : s.L = [] := List.eq_nil_of_length_eq_zero (by omega)
    rw [rdLoop_eq, rdLoop_eq, show (gluTS g m R s).L = glue s.L R from rfl, starts_glue hR, this, if_neg (by decide), if_neg (by decide)]
    rfl
  | succ n ih =>
    intro s hn
    rw [rdLoop_eq, rdLoop_eq, show (gluTS g m R s).L = glue s.L R from rfl, starts_glue hR]
    cases hst : startsL s.L
    · rfl
    · have hne : s.L ≠ [] := by rintro e; rw [e] at hst; cases hst
      have e1 : gluTS g m R s = mapTS g m R s := by unfold gluTS mapTS; rw [glue_ne hne]
      simp only [if_true]
      rw [e1, rdFactor_map hg hR m s hne]
      cases hf : rdFactor s with
      | none => rfl
      | some t =>
        have hlen := rdFactor_len hf
        have h2 := skp_le t.L
        have h3 := skp_le (skp t.L).tail
        have h4 : (skp t.L).tail.length ≤ (skp t.L).length := by simp
        simp only [Option.map_some]
        rw [show (mapTS g m R t).L = t.L ++ R from rfl, skp_glue, head_glue hR, starts_glue hR]
        cases hh : headIs (skp t.L) 42
        · simp only [Bool.false_eq_true, if_false]
          cases hs2 : startsL (skp t.L)
          · simp only [Bool.false_eq_true, if_false, Option.map_some]
            rfl
          · simp only [if_true]
            have := ih { t with L := skp t.L } (by show (skp t.L).length ≤ n; omega)
            rw [← this]
            rfl
        · simp only [if_true]
          have hne2 : skp t.L ≠ [] := by rintro e; rw [e] at hh; cases hh
          rw [glue_ne hne2, tail_app hh, skp_glue]
          have := ih { t with L := skp (skp t.L).tail } (by show (skp (skp t.L).tail).length ≤ n; omega)
          rw [← this]
          rfl
def negC (c : PC) : PC := (-c.1, c.2)
theorem negC_mul (c d : PC) : negC (mulC c d) = mulC (negC c) d := by
  unfold negC mulC
  simp only
  have e : -c.1 * d.1 = -(c.1 * d.1) := Int.neg_mul ..
  have hg : Int.gcd (-(c.1 * d.1)) (c.2 * d.2) = Int.gcd (c.1 * d.1) (c.2 * d.2) := Int.neg_gcd
  rw [e]
  unfold lowP lowQ
  rw [hg, Int.neg_ediv_of_dvd (Int.gcd_dvd_left ..)]
def negs (neg : Bool) (l : List PT) : List PT := if neg then l.map negT else l
theorem oneT_neg (neg : Bool) (k : Nat) (c : PC) : oneT k ((if neg then negC else id) c) = negs neg (oneT k c) := by
  cases neg
  · rfl
  · simp only [if_true]
    unfold oneT negC negs
    simp only [if_true]
    by_cases h : c.1 = 0
    · rw [if_pos h, if_pos (by omega)]; rfl
    · rw [if_neg h, if_neg (by omega)]; rfl
/-- A term: its sign, what is too much ahead, what stands behind. -/
theorem rdTerm_map {R : List UInt8} (hR : Cut R) (L : List UInt8) (m neg : Bool) : rdTerm (L ++ R) m neg = (rdTerm L false false).map fun x => (negs neg x.1, glue x.2.1 R, m || x.2.2) := by
  unfold rdTerm
  have hg : ∀ c d, (if neg then negC else id) (mulC c d) = mulC ((if neg then negC else id) c) d := by
    cases neg
    · intro c d; rfl
    · exact negC_mul
  have h := rdLoop_map hg hR m (skp L).length ⟨(1, 1), fun _ => 0, skp L, false⟩ (Nat.le_refl _)
  have e : (⟨(if neg then -1 else 1, 1), fun _ => 0, skp (L ++ R), m⟩ : TS) = gluTS (if neg then negC else id) m R ⟨(1, 1), fun _ => 0, skp L, false⟩ := by
    unfold gluTS
    rw [skp_glue, Bool.or_false]
    cases neg <;> rfl
  rw [e, h]
  simp only [Bool.false_eq_true, if_false]
  cases rdLoop ⟨(1, 1), fun _ => 0, skp L, false⟩ with
  | none => rfl
  | some t =>
    simp only [Option.map_some]
    unfold gluTS
    simp only
    rw [oneT_neg, Bool.or_assoc]
theorem glue_self (L : List UInt8) : glue L [] = L := by
  unfold glue
  split
  · next h => rw [h]; rfl
  · exact List.append_nil L
theorem rdTerm_base (L : List UInt8) (m neg : Bool) : rdTerm L m neg = (rdTerm L false false).map fun x => (negs neg x.1, x.2.1, m || x.2.2) := by
  have := rdTerm_map Cut.nil L m neg
  rw [List.append_nil] at this
  rw [this]
  cases rdTerm L false false with
  | none => rfl
  | some x => simp only [Option.map_some]; rw [glue_self]
theorem rdMore_cons (p : List PT) (b : UInt8) (r : List UInt8) (many : Bool) : rdMore p (b :: r) many = if b = 45 ∨ b = 43 then (match rdTerm r many (b = 45) with | none => none | some (l, r', m) => rdMore (addL p l) r' m) else none := by
  rw [rdMore]
  split
  · split
    · next h => rw [h]
    · next l r' m h => rw [h]
  · rfl
/-- More terms, and more behind them. -/
theorem rdMore_app {R : List UInt8} (hR : Cut R) : ∀ (n : Nat) (p : List PT) (L : List UInt8) (many : Bool), L.length ≤ n → rdMore p (glue L R) many = (rdMore p L many).bind fun x => rdMore x.1 (skp R) x.2 := by
  intro n
  induction n with
  | zero =>
    intro p L many hn
    have : L = [] := List.eq_nil_of_length_eq_zero (by omega)
    subst this
    rw [glue_nil, rdMore]
    rfl
  | succ n ih =>
    intro p L many hn
    cases L with
    | nil =>
      rw [glue_nil]
      conv => rhs; rw [rdMore]
      rfl
    | cons b r =>
      rw [glue_ne (by simp), List.cons_append, rdMore_cons, rdMore_cons]
      split
      · rw [rdTerm_map hR, rdTerm_base r many]
        cases hx : rdTerm r false false with
        | none => rfl
        | some x =>
          obtain ⟨l, r', m⟩ := x
          have hl := rdTerm_len hx
          simp only [Option.map_some]
          exact ih _ _ _ (by simp only [List.length_cons] at hn; omega)
      · rfl
/-- More terms: what is there ahead of them. -/
theorem rdMore_lin : ∀ (n : Nat) (p : List PT) (L : List UInt8) (many : Bool), L.length ≤ n → PW p → rdMore p L many = (rdMore [] L false).map fun x => (addL p x.1, many || x.2) := by
  intro n
  induction n with
  | zero =>
    intro p L many hn hp
    have : L = [] := List.eq_nil_of_length_eq_zero (by omega)
    subst this
    rw [rdMore, rdMore]
    simp [addL_nil]
  | succ n ih =>
    intro p L many hn hp
    cases L with
    | nil =>
      rw [rdMore, rdMore]
      simp [addL_nil]
    | cons b r =>
      rw [rdMore_cons, rdMore_cons]
      split
      · rw [rdTerm_base r many (decide (b = 45)), rdTerm_base r false (decide (b = 45))]
        cases hx : rdTerm r false false with
        | none => rfl
        | some x =>
          obtain ⟨l, r', m⟩ := x
          have hl := rdTerm_len hx
          have hlen : r'.length ≤ n := by simp only [List.length_cons] at hn; omega
          have hw : PW (negs (decide (b = 45)) l) := by
            have h2 : rdTerm r false (decide (b = 45)) = some (negs (decide (b = 45)) l, r', m) := by rw [rdTerm_base, hx]; simp
            exact (rdTerm_good h2).1
          simp only [Option.map_some]
          rw [ih (addL p (negs (decide (b = 45)) l)) r' (many || m) hlen (hp.add hw), ih (addL [] (negs (decide (b = 45)) l)) r' (false || m) hlen (by rw [addL]; exact hw)]
          cases hy : rdMore [] r' false with
          | none => rfl
          | some y =>
            obtain ⟨z, m'⟩ := y
            have hz : PW z := (rdMore_good _ _ _ _ (Nat.le_refl _) hy ⟨by simp, by simp, by simp⟩ (K := 0) (fun t ht => by cases ht)).1
            simp only [Option.map_some]
            rw [show addL [] (negs (decide (b = 45)) l) = negs (decide (b = 45)) l by rw [addL], addL_assoc hp hw hz, Bool.or_assoc, Bool.false_or]
      · rfl
/-- A sum, without the sign ahead of it. -/
def rdOpen (L : List UInt8) : Option (List PT × Bool) :=
  match rdTerm L false false with
  | none => none
  | some (l, r, m) => rdMore l r m
theorem skp_skp (L : List UInt8) : skp (skp L) = skp L := by
  have h : skp (skp L ++ []) = glue (skp (skp L)) [] := skp_glue _ _
  induction L with
  | nil => rfl
  | cons b r ih =>
    have e : ∀ X : List UInt8, skp (b :: X) = if isBlk b then skp X else b :: X := fun X => by
      unfold skp; rw [List.dropWhile_cons]
    rw [e]
    split
    · exact ih (skp_glue _ _)
    · next hb => rw [e, if_neg hb]
theorem rdTerm_skp (L : List UInt8) (m neg : Bool) : rdTerm (skp L) m neg = rdTerm L m neg := by
  unfold rdTerm
  rw [skp_skp]
theorem rdSum_pos {L : List UInt8} (h : headIs (skp L) 45 = false) : rdSum L = rdOpen L := by
  unfold rdSum rdOpen
  rw [h]
  simp only [Bool.false_eq_true, if_false]
  rw [rdTerm_skp]
  rfl
theorem not_starts {L : List UInt8} (h : startsL (skp L) = false) (m neg : Bool) : rdTerm L m neg = none := by
  unfold rdTerm
  rw [rdLoop_eq]
  simp only
  rw [h]
  rfl
theorem rdOpen_neg {L : List UInt8} (h : headIs (skp L) 45 = true) : ∀ m neg, rdTerm L m neg = none := by
  apply not_starts
  cases hs : skp L with
  | nil => rw [hs] at h; cases h
  | cons b r =>
    rw [hs] at h
    have h' : decide ((b.toNat : Int) = 45) = true := h
    rw [decide_eq_true_eq] at h'
    show startsB b = false
    unfold startsB
    rw [decide_eq_false_iff_not]
    omega
theorem rdTerm_pw {L r : List UInt8} {m neg : Bool} {l : List PT} {m' : Bool} (h : rdTerm L m neg = some (l, r, m')) : PW l := (rdTerm_good h).1
theorem nil_pw : PW ([] : List PT) := ⟨by simp, by simp, by simp⟩
theorem rdMore_pw {p : List PT} {L : List UInt8} {many : Bool} {l : List PT} {m : Bool} (hp : PW p) (h : rdMore p L many = some (l, m)) : PW l := by
  have hl := rdMore_lin L.length p L many (Nat.le_refl _) hp
  rw [h] at hl
  cases hy : rdMore [] L false with
  | none => rw [hy] at hl; cases hl
  | some y =>
    obtain ⟨z, m'⟩ := y
    have hz : PW z := (rdMore_good _ _ _ _ (Nat.le_refl _) hy nil_pw (K := 0) (fun t ht => by cases ht)).1
    rw [hy] at hl
    simp only [Option.map_some, Option.some.injEq, Prod.mk.injEq] at hl
    rw [hl.1]
    exact hp.add hz
/-- What is behind a sum: more terms. -/
theorem rdSum_app {R : List UInt8} (hR : Cut R) {s : List UInt8} (hs : skp s ≠ [] ∨ headIs (skp R) 45 = false) : rdSum (s ++ R) = (rdSum s).bind fun x => rdMore x.1 (skp R) x.2 := by
  unfold rdSum
  rw [skp_glue]
  have hh : headIs (glue (skp s) R) 45 = headIs (skp s) 45 := by
    by_cases h : skp s = []
    · rw [h, glue_nil]
      rcases hs with hs | hs
      · exact absurd h hs
      · rw [hs]; rfl
    · rw [glue_ne h]
      cases he : skp s with
      | nil => exact absurd he h
      | cons b r => rfl
  rw [hh]
  have hT : ∀ neg : Bool, (∃ L, (if headIs (skp s) 45 = true then (glue (skp s) R).tail else glue (skp s) R) = L) → rdTerm (if headIs (skp s) 45 = true then (glue (skp s) R).tail else glue (skp s) R) false neg = (rdTerm (if headIs (skp s) 45 = true then (skp s).tail else skp s) false neg).map fun x => (x.1, glue x.2.1 R, x.2.2) := by
    intro neg _
    have hB : ∀ X : List UInt8, rdTerm (X ++ R) false neg = (rdTerm X false neg).map fun x => (x.1, glue x.2.1 R, x.2.2) := by
      intro X
      rw [rdTerm_map hR, rdTerm_base X false neg]
      cases rdTerm X false false with
      | none => rfl
      | some x => rfl
    cases h45 : headIs (skp s) 45
    · simp only [Bool.false_eq_true, if_false]
      by_cases h : skp s = []
      · rw [h, glue_nil, rdTerm_skp]
        have := hB []
        rw [List.nil_append] at this
        exact this
      · rw [glue_ne h]; exact hB _
    · simp only [if_true]
      have h : skp s ≠ [] := by rintro e; rw [e] at h45; cases h45
      rw [glue_ne h, tail_app h45]
      exact hB _
  rw [hT _ ⟨_, rfl⟩]
  cases rdTerm (if headIs (skp s) 45 = true then (skp s).tail else skp s) false (headIs (skp s) 45) with
  | none => rfl
  | some x =>
    obtain ⟨l, r, m⟩ := x
    simp only [Option.map_some]
    exact rdMore_app hR r.length l r m (Nat.le_refl _)
/-- A sign and a text behind a sum. -/
theorem rdMore_sign (a : List PT) (ha : PW a) (neg : Bool) (t : List UInt8) (m : Bool) :
    rdMore a (sgC neg :: t) m = (rdTerm t false false).bind fun x => (rdMore [] x.2.1 false).map fun y => (addL (addL a (negs neg x.1)) y.1, m || (x.2.2 || y.2)) := by
  rw [rdMore_cons, if_pos (by cases neg <;> decide)]
  have e : decide (sgC neg = 45) = neg := by cases neg <;> decide
  rw [e, rdTerm_base t m neg]
  cases hx : rdTerm t false false with
  | none => rfl
  | some x =>
    obtain ⟨l, r, m1⟩ := x
    have hw : PW (negs neg l) := by
      have h2 : rdTerm t false neg = some (negs neg l, r, m1) := by rw [rdTerm_base, hx]; simp
      exact rdTerm_pw h2
    simp only [Option.map_some, Option.bind_some]
    rw [rdMore_lin r.length _ r _ (Nat.le_refl _) (ha.add hw)]
    cases rdMore [] r false with
    | none => rfl
    | some y => simp only [Option.map_some]; rw [Bool.or_assoc]
theorem rdOpen_eq (t : List UInt8) : rdOpen t = (rdTerm t false false).bind fun x => (rdMore [] x.2.1 false).map fun y => (addL x.1 y.1, x.2.2 || y.2) := by
  unfold rdOpen
  cases hx : rdTerm t false false with
  | none => rfl
  | some x =>
    obtain ⟨l, r, m⟩ := x
    simp only [Option.bind_some]
    rw [rdMore_lin r.length l r m (Nat.le_refl _) (rdTerm_pw hx)]
/-- With a + between. -/
theorem plus_read (a : List PT) (ha : PW a) (t : List UInt8) (m : Bool) : rdMore a (43 :: t) m = (rdOpen t).map fun y => (addL a y.1, m || y.2) := by
  have h := rdMore_sign a ha false t m
  rw [show sgC false = 43 from rfl] at h
  rw [h, rdOpen_eq]
  cases hx : rdTerm t false false with
  | none => rfl
  | some x =>
    obtain ⟨l, r, m1⟩ := x
    simp only [Option.bind_some]
    cases hy : rdMore [] r false with
    | none => rfl
    | some y =>
      have hz : PW y.1 := rdMore_pw nil_pw (show rdMore [] r false = some (y.1, y.2) from hy)
      simp only [Option.map_some]
      rw [show negs false l = l from rfl, addL_assoc ha (rdTerm_pw hx) hz]
theorem rdOpen_none {t : List UInt8} (h : headIs (skp t) 45 = true) : rdOpen t = none := by
  unfold rdOpen
  rw [rdOpen_neg h]
theorem cut_plus (t : List UInt8) : Cut ([32, 43] ++ t) ∧ skp ([32, 43] ++ t) = 43 :: t := by
  have e : skp ([32, 43] ++ t) = 43 :: t := by
    show skp (32 :: 43 :: t) = _
    unfold skp
    rw [List.dropWhile_cons, if_pos (by decide), List.dropWhile_cons, if_neg (by decide)]
  refine ⟨Stop.cut (fun b hb => by cases hb; exact .inl rfl) (by rw [e]; exact EndR.cons (.inl rfl) t), e⟩
theorem cut_minus (t : List UInt8) : Cut (45 :: t) ∧ skp (45 :: t) = 45 :: t := by
  have e : skp (45 :: t) = 45 :: t := by
    unfold skp
    rw [List.dropWhile_cons, if_neg (by decide)]
  refine ⟨Stop.cut (fun b hb => by cases hb; exact .inr (.inr (.inr (.inr rfl)))) (by rw [e]; exact EndR.cons (.inr rfl) t), e⟩
theorem rdSum_pw {L : List UInt8} {l : List PT} {m : Bool} (h : rdSum L = some (l, m)) : PW l := by
  unfold rdSum at h
  split at h
  · cases h
  · next ht => exact rdMore_pw (rdTerm_pw ht) h
theorem rdOpen_blank (t : List UInt8) : rdOpen (32 :: t) = rdOpen t := by
  unfold rdOpen
  have e : skp (32 :: t) = skp t := by
    unfold skp
    rw [List.dropWhile_cons, if_pos (by decide)]
  rw [← rdTerm_skp (32 :: t), e, rdTerm_skp]
/-- Both texts with a + between: the answer. -/
theorem sums_plus (s t : List UInt8) : rdSum (s ++ ([32, 43] ++ 32 :: t)) = (rdSum s).bind fun x => (rdOpen t).map fun y => (addL x.1 y.1, x.2 || y.2) := by
  obtain ⟨h1, h2⟩ := cut_plus (32 :: t)
  rw [rdSum_app h1 (.inr (by rw [h2]; rfl)), h2]
  cases hx : rdSum s with
  | none => rfl
  | some x =>
    simp only [Option.bind_some]
    rw [plus_read x.1 (rdSum_pw (show rdSum s = some (x.1, x.2) from hx)), rdOpen_blank]
theorem rdSum_some_ne {s : List UInt8} {x : List PT × Bool} (h : rdSum s = some x) : skp s ≠ [] := by
  intro e
  unfold rdSum at h
  rw [e] at h
  simp only [show headIs [] 45 = false from rfl, Bool.false_eq_true, if_false] at h
  rw [not_starts (by rfl)] at h
  cases h
/-- Both texts with a - between: the answer. -/
theorem sums_minus {s : List UInt8} {x : List PT × Bool} (hs : rdSum s = some x) (t : List UInt8) : rdSum (s ++ 45 :: t) = (rdTerm t false false).bind fun z => (rdMore [] z.2.1 false).map fun y => (addL (addL x.1 (z.1.map negT)) y.1, x.2 || (z.2.2 || y.2)) := by
  obtain ⟨h1, h2⟩ := cut_minus t
  rw [rdSum_app h1 (.inl (rdSum_some_ne hs)), h2, hs]
  have := rdMore_sign x.1 (rdSum_pw (show rdSum s = some (x.1, x.2) from hs)) true t x.2
  rw [show sgC true = 45 from rfl] at this
  simp only [Option.bind_some]
  rw [this]
  rfl
/-- Without a sign it is one term. -/
theorem one_only {t : List UInt8} {l : List PT} {r : List UInt8} {m : Bool} (ht : rdTerm t false false = some (l, r, m)) {y : List PT × Bool} (hr : rdMore [] r false = some y) (hn : ∀ b ∈ r, b ≠ 43 ∧ b ≠ 45) : r = [] := by
  cases r with
  | nil => rfl
  | cons b r =>
    obtain ⟨h1, h2⟩ := hn b (by simp)
    rw [rdMore_cons, if_neg (by simp [h1, h2])] at hr
    cases hr
end Go.Proofs.YtdamegaedmckbaaGreatDoor
end
