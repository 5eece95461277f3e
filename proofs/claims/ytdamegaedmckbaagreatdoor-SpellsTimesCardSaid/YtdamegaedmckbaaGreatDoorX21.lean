/- Plain: what the reader reads may be, and how great it is. No condition. Plain: digits, nine by nine. No condition. Package spells: letter, amount. -/
import Derived.Test.YtdamegaedmckbaaGreatDoorX20
import Derived.Test.YtdamegaedmckbaaGreatDoorX19
set_option linter.unusedSimpArgs false
set_option linter.unusedVariables false
section
namespace Go.Proofs.YtdamegaedmckbaaGreatDoor
open Go.RowKit

theorem dg_len_pow : ∀ (k n : Nat), n < 1000000000 ^ k → (dg n).length ≤ k
  | 0, n, h => by
    have : n = 0 := by simpa using h
    subst this
    rw [dg_zero]; simp
  | k + 1, n, h => by
    by_cases h0 : n = 0
    · subst h0; rw [dg_zero]; simp
    · rw [dg_pos (by omega), List.length_cons]
      have : n / 1000000000 < 1000000000 ^ k := by
        rw [Nat.div_lt_iff_lt_mul (by omega), ← Nat.pow_succ]; exact h
      have := dg_len_pow k _ this
      omega
theorem foldl_lt (d : List UInt8) (h : d.all isDig = true) (a : Nat) : d.foldl (fun n b => 10 * n + (b.toNat - 48)) a < (a + 1) * 10 ^ d.length := by
  induction d generalizing a with
  | nil => simp
  | cons b r ih =>
    simp only [List.all_cons, Bool.and_eq_true] at h
    have hb : b.toNat - 48 ≤ 9 := by have := h.1; unfold isDig at this; simp at this; omega
    refine Nat.lt_of_lt_of_le (ih h.2 _) ?_
    rw [List.length_cons, Nat.pow_succ, Nat.mul_comm (10 ^ r.length) 10, ← Nat.mul_assoc]
    exact Nat.mul_le_mul_right _ (by show 10 * a + (b.toNat - 48) + 1 ≤ (a + 1) * 10; omega)
theorem numN_lt {d : List UInt8} (h : d.all isDig = true) : numN d < 10 ^ d.length := by
  have := foldl_lt d h 0
  simpa [numN] using this
theorem digitsB_all {d : List UInt8} (h : digitsB d = true) : d.all isDig = true ∧ 0 < d.length := by
  cases d with
  | nil => cases h
  | cons b r =>
    simp only [digitsB, Bool.and_eq_true] at h
    exact ⟨h.1, by simp⟩
theorem numZ_few {d : List UInt8} (h : digitsB d = true) : (dg (numZ d)).length ≤ d.length := by
  unfold numZ
  split
  · rw [dg_zero]; simp
  · apply dg_len_pow
    refine Nat.lt_of_lt_of_le (numN_lt (digitsB_all h).1) ?_
    exact Nat.pow_le_pow_left (by omega) _
theorem mkFr_cw (n d : Nat) : CW (mkFr n d) := by
  unfold mkFr
  split
  · exact ⟨by decide, by decide⟩
  · exact CW.low (by omega)
theorem mkFr_few {n d K : Nat} (h1 : (dg n).length ≤ K) (h2 : (dg d).length ≤ K) (hK : 1 ≤ K) : FewC K (mkFr n d) := by
  unfold mkFr
  split
  · exact ⟨by show (dg 0).length ≤ K; rw [dg_zero]; simp, by show (dg 1).length ≤ K; rw [dg_one_len]; exact hK⟩
  · obtain ⟨a, b⟩ := low_le (n : Int) (d : Int) (by omega)
    exact ⟨by show (dg (lowP (n : Int) d).natAbs).length ≤ K; simp only [Int.natAbs_natCast] at a; omega, by show (dg (lowQ (n : Int) d).natAbs).length ≤ K; simp only [Int.natAbs_natCast] at b; omega⟩
theorem rdNum_digits {L : List UInt8} {many : Bool} {d r : List UInt8} {m : Bool} (h : rdNum L many = some (d, r, m)) : digitsB d = true := by
  unfold rdNum at h
  split at h
  · next hd => cases h; exact hd
  · cases h
theorem rdPos_num {L : List UInt8} {many : Bool} {d r : List UInt8} {m : Bool} (h : rdPos L many = some (d, r, m)) : rdNum L many = some (d, r, m) ∧ d ≠ [48] := by
  unfold rdPos at h
  split at h
  · cases h
  · next d' r' m' h' =>
    split at h
    · cases h
    · next hn => cases h; exact ⟨h', hn⟩
theorem rdFrac_good {L : List UInt8} {many : Bool} {c : PC} {r : List UInt8} {m : Bool} (h : rdFrac L many = some (c, r, m)) : CW c ∧ FewC (L.length - r.length) c := by
  unfold rdFrac at h
  split at h
  · cases h
  · next t r' m' h' =>
    have h1 := rdNum_len h'
    have k1 := numZ_few (rdNum_digits h')
    split at h
    · split at h
      · cases h
      · next l r'' m'' h'' =>
        have h2 := rdPos_len h''
        have k2 := numZ_few (rdNum_digits (rdPos_num h'').1)
        have h3 : r'.tail.length ≤ r'.length := by simp
        cases h
        exact ⟨mkFr_cw _ _, mkFr_few (by omega) (by omega) (by omega)⟩
    · cases h
      exact ⟨mkFr_cw _ _, mkFr_few (by omega) (by rw [dg_one_len]; omega) (by omega)⟩
theorem rdPow_le {L : List UInt8} {many : Bool} {n : Nat} {r : List UInt8} {m : Bool} (h : rdPow L many = some (n, r, m)) : n ≤ 1000 := by
  unfold rdPow at h
  split at h
  · split at h
    · cases h
    · split at h
      · cases h; omega
      · cases h; omega
  · cases h; omega
theorem rdFactor_good {s t : TS} (h : rdFactor s = some t) (hc : CW s.c) {K : Nat} (hK : FewC K s.c) : CW t.c ∧ FewC (K + (s.L.length - t.L.length)) t.c := by
  unfold rdFactor at h
  split at h
  · cases h
  · next b r hL =>
    split at h
    · next i hi =>
      split at h
      · cases h
      · next n r' m h' =>
        cases h
        exact ⟨hc, hK.mono (by omega)⟩
    · split at h
      · cases h
      · next c r' m h' =>
        obtain ⟨h1, h2⟩ := rdFrac_good h'
        cases h
        refine ⟨hc.mul h1, ?_⟩
        rw [hL]
        exact FewC.mul hc h1 hK h2
theorem rdFactor_o {s t : TS} (h : rdFactor s = some t) {N : Nat} (hN : ∀ i, s.o i ≤ N) : ∀ i, t.o i ≤ N + 1000 := by
  unfold rdFactor at h
  split at h
  · cases h
  · next b r hL =>
    split at h
    · next i hi =>
      split at h
      · cases h
      · next n r' m h' =>
        have hn := rdPow_le h'
        cases h
        intro k
        show bump s.o i n k ≤ _
        unfold bump
        have := hN k
        have := hN i
        split <;> omega
    · split at h
      · cases h
      · next c r' m h' =>
        cases h
        intro k
        have := hN k
        show s.o k ≤ _
        omega
theorem rdLoop_eq (s : TS) : rdLoop s = if startsL s.L then (match rdFactor s with
    | none => none
    | some t => if headIs (skp t.L) 42 then rdLoop { t with L := skp (skp t.L).tail } else if startsL (skp t.L) then rdLoop { t with L := skp t.L } else some { t with L := skp t.L }) else none := by
  rw [rdLoop]
  split
  · split
    · next h => rw [h]
    · next t h => rw [h]
  · rfl
theorem rdLoop_cases {s t : TS} (h : rdLoop s = some t) : startsL s.L = true ∧ ∃ u, rdFactor s = some u ∧
    ((headIs (skp u.L) 42 = true ∧ rdLoop { u with L := skp (skp u.L).tail } = some t) ∨ (headIs (skp u.L) 42 = false ∧ startsL (skp u.L) = true ∧ rdLoop { u with L := skp u.L } = some t) ∨ (headIs (skp u.L) 42 = false ∧ startsL (skp u.L) = false ∧ t = { u with L := skp u.L })) := by
  rw [rdLoop_eq] at h
  split at h
  · next hs =>
    refine ⟨hs, ?_⟩
    split at h
    · cases h
    · next u hu =>
      refine ⟨u, hu, ?_⟩
      cases h1 : headIs (skp u.L) 42
      · rw [h1] at h
        cases h2 : startsL (skp u.L)
        · rw [h2] at h
          simp only [Bool.false_eq_true, if_false, Option.some.injEq] at h
          exact .inr (.inr ⟨rfl, rfl, h.symm⟩)
        · rw [h2] at h
          simp only [Bool.false_eq_true, if_false, if_true] at h
          exact .inr (.inl ⟨rfl, rfl, h⟩)
      · rw [h1] at h
        simp only [if_true] at h
        exact .inl ⟨rfl, h⟩
  · cases h
theorem rdLoop_good : ∀ (n : Nat) (s : TS) {t : TS}, s.L.length ≤ n → rdLoop s = some t → CW s.c → ∀ {K : Nat}, FewC K s.c → CW t.c ∧ FewC (K + (s.L.length - t.L.length)) t.c
  | 0, s, t, hn, h, _, _, _ => by have := rdLoop_len _ h; omega
  | n + 1, s, t, hn, h, hc, K, hK => by
    obtain ⟨hs, u, hu, hh⟩ := rdLoop_cases h
    obtain ⟨g1, g2⟩ := rdFactor_good hu hc hK
    have h1 := rdFactor_len hu
    have h2 := skp_le u.L
    have h3 := skp_le (skp u.L).tail
    have h4 : (skp u.L).tail.length ≤ (skp u.L).length := by simp
    rcases hh with ⟨_, h5⟩ | ⟨_, _, h5⟩ | ⟨_, _, h5⟩
    · have h6 := rdLoop_len _ h5
      obtain ⟨g3, g4⟩ := rdLoop_good n _ (by show (skp (skp u.L).tail).length ≤ n; omega) h5 g1 g2
      refine ⟨g3, g4.mono ?_⟩
      simp only at h6 ⊢
      omega
    · have h6 := rdLoop_len _ h5
      obtain ⟨g3, g4⟩ := rdLoop_good n _ (by show (skp u.L).length ≤ n; omega) h5 g1 g2
      refine ⟨g3, g4.mono ?_⟩
      simp only at h6 ⊢
      omega
    · subst h5
      refine ⟨g1, g2.mono ?_⟩
      show _ ≤ K + (s.L.length - (skp u.L).length)
      omega
theorem keyO_lt (o : Nat → Nat) : keyO o < 18446744073709551616 := by
  unfold keyO
  have : ∀ n, clamp n < 65536 := fun n => by unfold clamp; omega
  exact key4_lt (this _) (this _) (this _) (this _)
theorem PW.one {k : Nat} {c : PC} (hc : CW c) (hk : k < 18446744073709551616) : PW (oneT k c) := by
  unfold oneT
  split
  · exact ⟨by simp, by simp, by simp⟩
  · next h => exact ⟨by simp, by simpa using ⟨hc, h⟩, by simpa using hk⟩
theorem one_cw (neg : Bool) : CW ((if neg then -1 else 1, 1) : PC) := by cases neg <;> exact ⟨by decide, by decide⟩
theorem one_few (neg : Bool) : FewC 1 ((if neg then -1 else 1, 1) : PC) := by
  cases neg <;> exact ⟨by show (dg 1).length ≤ 1; rw [dg_one_len]; exact Nat.le_refl _, by show (dg 1).length ≤ 1; rw [dg_one_len]; exact Nat.le_refl _⟩
theorem rdTerm_good {L : List UInt8} {many neg : Bool} {l : List PT} {r : List UInt8} {m : Bool} (h : rdTerm L many neg = some (l, r, m)) : PW l ∧ FewL (1 + (L.length - r.length)) l ∧ l.length ≤ 1 := by
  unfold rdTerm at h
  split at h
  · cases h
  · next t ht =>
    have h0 := skp_le L
    obtain ⟨g1, g2⟩ := rdLoop_good _ _ (Nat.le_refl _) ht (one_cw neg) (one_few neg)
    have h1 := rdLoop_len _ ht
    cases h
    refine ⟨PW.one g1 (keyO_lt _), ?_, ?_⟩
    · unfold oneT
      split
      · intro t ht; cases ht
      · intro t' ht'
        simp only [List.mem_singleton] at ht'
        subst ht'
        refine FewC.mono g2 ?_
        simp only at h1 ⊢
        omega
    · unfold oneT; split <;> simp
theorem rdMore_good : ∀ (n : Nat) (p : List PT) (L : List UInt8) (many : Bool) {l : List PT} {m : Bool}, L.length ≤ n → rdMore p L many = some (l, m) → PW p → ∀ {K : Nat}, FewL K p → PW l ∧ FewL (K + 3 * L.length) l ∧ l.length ≤ p.length + L.length
  | n, p, [], many, l, m, hn, h, hp, K, hK => by
    rw [rdMore] at h
    cases h
    exact ⟨hp, hK.mono (by omega), by omega⟩
  | 0, p, b :: r, many, l, m, hn, h, hp, K, hK => by simp at hn
  | n + 1, p, b :: r, many, l, m, hn, h, hp, K, hK => by
    rw [rdMore] at h
    split at h
    · split at h
      · cases h
      · next l' r' m' h' =>
        obtain ⟨g1, g2, g3⟩ := rdTerm_good h'
        have h1 := rdTerm_len h'
        have h2 := addL_length p l'
        simp only [List.length_cons] at hn
        obtain ⟨g4, g5, g6⟩ := rdMore_good n _ r' m' (by omega) h (hp.add g1) (FewL.add p l' hp.good g1.good hK g2)
        refine ⟨g4, g5.mono ?_, ?_⟩
        · simp only [List.length_cons]; omega
        · simp only [List.length_cons]; omega
    · cases h
end Go.Proofs.YtdamegaedmckbaaGreatDoor
end
section
namespace Go.Proofs.YtdamegaedmckbaaGreatDoor
open Go.RowKit

theorem numN_from (d : List UInt8) (a : Nat) : d.foldl (fun n b => 10 * n + (b.toNat - 48)) a = a * 10 ^ d.length + numN d := by
  induction d generalizing a with
  | nil => simp [numN]
  | cons b r ih =>
    have e : numN (b :: r) = (10 * 0 + (b.toNat - 48)) * 10 ^ r.length + numN r := by rw [← ih]; rfl
    rw [List.foldl_cons, ih, e, List.length_cons, Nat.pow_succ]
    rw [Nat.add_mul, Nat.add_mul, Nat.mul_zero, Nat.zero_mul]
    have : 10 * a * 10 ^ r.length = a * (10 ^ r.length * 10) := by rw [Nat.mul_comm 10 a, Nat.mul_assoc, Nat.mul_comm 10 (10 ^ r.length)]
    rw [this]
    omega
theorem numN_append (a b : List UInt8) : numN (a ++ b) = numN a * 10 ^ b.length + numN b := by
  have : numN (a ++ b) = b.foldl (fun n b => 10 * n + (b.toNat - 48)) (numN a) := by simp [numN, List.foldl_append]
  rw [this, numN_from]
theorem numN_snoc (a : List UInt8) (b : UInt8) : numN (a ++ [b]) = 10 * numN a + (b.toNat - 48) := by
  simp [numN, List.foldl_append]
theorem numN_nine {d : List UInt8} (h : d.all isDig = true) (hl : d.length ≤ 9) : numN d < 1000000000 := by
  have h1 := numN_lt h
  have h2 : 10 ^ d.length ≤ 10 ^ 9 := Nat.pow_le_pow_right (by omega) hl
  omega
/-- So far: the numbers of nine digits that have been split off, the last ones first. -/
structure SoFar (s : List UInt8) (j : Nat) (d : List Nat) : Prop where
  le : j ≤ s.length
  small : ∀ x ∈ d, x < 1000000000
  lies : j = 0 ∨ j + 9 * d.length = s.length
  few : d.length ≤ s.length
  sum : val d + 1000000000 ^ d.length * numN (s.take j) = numN s
theorem SoFar.start (s : List UInt8) : SoFar s s.length [] := ⟨Nat.le_refl _, by simp, by simp, by simp, by simp [val]⟩
theorem nine_aux (v P y X K : Nat) : v + P * y + P * K * X = v + P * (X * K + y) := by
  rw [Nat.mul_add, Nat.mul_comm X K, Nat.mul_assoc]; omega
theorem zero_aux (v P y K q : Nat) : v + P * y + P * K * 0 = v + P * (0 * q + y) := by
  rw [Nat.mul_zero, Nat.zero_mul, Nat.zero_add, Nat.add_zero]
theorem SoFar.next {s : List UInt8} {j : Nat} {d : List Nat} (h : SoFar s j d) (ha : s.all isDig = true) (hj : 0 < j) : SoFar s (j - 9) (d ++ [numN ((s.take j).drop (j - 9))]) := by
  obtain ⟨h1, h2, h3, h4, h5⟩ := h
  have hl : ((s.take j).drop (j - 9)).length = j - (j - 9) := by simp; omega
  have hall : ((s.take j).drop (j - 9)).all isDig = true := by
    rw [List.all_eq_true] at ha ⊢
    exact fun x hx => ha x (List.mem_of_mem_take (List.mem_of_mem_drop hx))
  have hn := numN_nine hall (by omega)
  refine ⟨by omega, ?_, ?_, ?_, ?_⟩
  · intro x hx
    rcases List.mem_append.1 hx with hx | hx
    · exact h2 x hx
    · simp only [List.mem_singleton] at hx; omega
  · rw [List.length_append, List.length_singleton]; omega
  · rw [List.length_append, List.length_singleton]; omega
  · rw [val_append, List.length_append, List.length_singleton, Nat.pow_succ]
    have e1 : s.take j = s.take (j - 9) ++ (s.take j).drop (j - 9) := by
      have : (s.take j).take (j - 9) = s.take (j - 9) := by rw [List.take_take]; congr 1; omega
      rw [← this, List.take_append_drop]
    have e2 : numN (s.take j) = numN (s.take (j - 9)) * 10 ^ (j - (j - 9)) + numN ((s.take j).drop (j - 9)) := by
      conv => lhs; rw [e1]
      rw [numN_append, hl]
    have e3 : val [numN ((s.take j).drop (j - 9))] = numN ((s.take j).drop (j - 9)) := by simp [val]
    rw [e3, ← h5, e2]
    by_cases h9 : 9 ≤ j
    · have e4 : (10 : Nat) ^ (j - (j - 9)) = 1000000000 := by rw [show j - (j - 9) = 9 by omega]
      rw [e4]
      exact nine_aux _ _ _ _ _
    · have e5 : numN (s.take (j - 9)) = 0 := by rw [show j - 9 = 0 by omega]; rfl
      rw [e5]
      exact zero_aux _ _ _ _ _
theorem SoFar.done {s : List UInt8} {d : List Nat} (h : SoFar s 0 d) : val d = numN s := by
  have := h.sum
  simpa [numN] using this
end Go.Proofs.YtdamegaedmckbaaGreatDoor
end
section
namespace Go.Proofs.YtdamegaedmckbaaGreatDoor
open Go.RowKit

theorem Itoa_c (n : Int) (h0 : -9223372036854775808 ≤ n) (h1 : n ≤ 9223372036854775807) (w : World) (hT : Tab w) :
    Calls Tryz.prog 184 #[.int .i64 n] w (RetStr w (Lib.itoa n)) :=
  (Tryz.strconv_Itoa n h0 h1 w hT).mono fun _ _ ⟨h, k, os, hw⟩ => ⟨h, by rw [hw]; exact below_grow _ _ _ (Nat.le_refl _)⟩
/-- The four letters. -/
def xyzt : Nat → UInt8
  | 0 => 120
  | 1 => 121
  | 2 => 122
  | _ => 116
def letterL (i n : Nat) : List UInt8 := xyzt i :: (if 1 < n then 94 :: Lib.itoa (n : Int) else [])
theorem itoa_small (n : Nat) (h : n < 65536) : (Lib.itoa (n : Int)).length ≤ 5 := by
  rw [Lib.itoa, if_neg (by omega), Int.toNat_natCast]
  exact (padD_eq 4 n (by omega)).2
set_option maxRecDepth 100000 in
set_option maxHeartbeats 1000000 in
theorem letter_0 (w : World) (n : Nat) (hn : n < 65536) (hT : Tab w) :
    Calls Tryz.prog 115 #[.int .i64 0, .int .u16 n] w (RetStr w (letterL 0 n)) := by
  have hl := itoa_small n hn
  have hcat1 : (⟨#[94]⟩ : ByteArray).size + (⟨(Lib.itoa (n : Int)).toArray⟩ : ByteArray).size ≤ 9223372036854775807 := by show 1 + (Lib.itoa (n : Int)).length ≤ _; omega
  have happ1 : ((⟨#[94]⟩ : ByteArray) ++ (⟨(Lib.itoa (n : Int)).toArray⟩ : ByteArray)) = ⟨(94 :: Lib.itoa (n : Int)).toArray⟩ := ba_app [94] _
  have hnw : IntKind.i64.wrap (n : Int) = n := IntWalk.i64_in _ (by omega)
  have hex : (⟨#[120, 121, 122, 116]⟩ : ByteArray).extract 0 1 = ⟨#[120]⟩ := by rfl
  by_cases h1 : 1 < n
  · have hcat2 : (⟨#[120]⟩ : ByteArray).size + (⟨(94 :: Lib.itoa (n : Int)).toArray⟩ : ByteArray).size ≤ 9223372036854775807 := by show 1 + (94 :: Lib.itoa (n : Int)).length ≤ _; simp only [List.length_cons]; omega
    have happ2 : ((⟨#[120]⟩ : ByteArray) ++ (⟨(94 :: Lib.itoa (n : Int)).toArray⟩ : ByteArray)) = ⟨(120 :: 94 :: Lib.itoa (n : Int)).toArray⟩ := ba_app [120] _
    go_enter Tryz.func115, Tryz.ntmps115
    go_wp2_with fail
    refine (Itoa_c _ (by omega) (by omega) _ hT).mono ?_
    rintro e w1 ⟨rfl, hb⟩
    go_wp2_with fail
    go_ret
    exact ⟨by rw [letterL, if_pos h1]; rfl, hb⟩
  · go_enter Tryz.func115, Tryz.ntmps115
    go_wp2_with fail
    go_ret
    exact ⟨by rw [letterL, if_neg h1]; rfl, Below.refl _ _⟩
set_option maxRecDepth 100000 in
set_option maxHeartbeats 1000000 in
theorem letter_1 (w : World) (n : Nat) (hn : n < 65536) (hT : Tab w) :
    Calls Tryz.prog 115 #[.int .i64 1, .int .u16 n] w (RetStr w (letterL 1 n)) := by
  have hl := itoa_small n hn
  have hcat1 : (⟨#[94]⟩ : ByteArray).size + (⟨(Lib.itoa (n : Int)).toArray⟩ : ByteArray).size ≤ 9223372036854775807 := by show 1 + (Lib.itoa (n : Int)).length ≤ _; omega
  have happ1 : ((⟨#[94]⟩ : ByteArray) ++ (⟨(Lib.itoa (n : Int)).toArray⟩ : ByteArray)) = ⟨(94 :: Lib.itoa (n : Int)).toArray⟩ := ba_app [94] _
  have hnw : IntKind.i64.wrap (n : Int) = n := IntWalk.i64_in _ (by omega)
  have hex : (⟨#[120, 121, 122, 116]⟩ : ByteArray).extract 1 2 = ⟨#[121]⟩ := by rfl
  by_cases h1 : 1 < n
  · have hcat2 : (⟨#[121]⟩ : ByteArray).size + (⟨(94 :: Lib.itoa (n : Int)).toArray⟩ : ByteArray).size ≤ 9223372036854775807 := by show 1 + (94 :: Lib.itoa (n : Int)).length ≤ _; simp only [List.length_cons]; omega
    have happ2 : ((⟨#[121]⟩ : ByteArray) ++ (⟨(94 :: Lib.itoa (n : Int)).toArray⟩ : ByteArray)) = ⟨(121 :: 94 :: Lib.itoa (n : Int)).toArray⟩ := ba_app [121] _
    go_enter Tryz.func115, Tryz.ntmps115
    go_wp2_with fail
    refine (Itoa_c _ (by omega) (by omega) _ hT).mono ?_
    rintro e w1 ⟨rfl, hb⟩
    go_wp2_with fail
    go_ret
    exact ⟨by rw [letterL, if_pos h1]; rfl, hb⟩
  · go_enter Tryz.func115, Tryz.ntmps115
    go_wp2_with fail
    go_ret
    exact ⟨by rw [letterL, if_neg h1]; rfl, Below.refl _ _⟩
set_option maxRecDepth 100000 in
set_option maxHeartbeats 1000000 in
theorem letter_2 (w : World) (n : Nat) (hn : n < 65536) (hT : Tab w) :
    Calls Tryz.prog 115 #[.int .i64 2, .int .u16 n] w (RetStr w (letterL 2 n)) := by
  have hl := itoa_small n hn
  have hcat1 : (⟨#[94]⟩ : ByteArray).size + (⟨(Lib.itoa (n : Int)).toArray⟩ : ByteArray).size ≤ 9223372036854775807 := by show 1 + (Lib.itoa (n : Int)).length ≤ _; omega
  have happ1 : ((⟨#[94]⟩ : ByteArray) ++ (⟨(Lib.itoa (n : Int)).toArray⟩ : ByteArray)) = ⟨(94 :: Lib.itoa (n : Int)).toArray⟩ := ba_app [94] _
  have hnw : IntKind.i64.wrap (n : Int) = n := IntWalk.i64_in _ (by omega)
  have hex : (⟨#[120, 121, 122, 116]⟩ : ByteArray).extract 2 3 = ⟨#[122]⟩ := by rfl
  by_cases h1 : 1 < n
  · have hcat2 : (⟨#[122]⟩ : ByteArray).size + (⟨(94 :: Lib.itoa (n : Int)).toArray⟩ : ByteArray).size ≤ 9223372036854775807 := by show 1 + (94 :: Lib.itoa (n : Int)).length ≤ _; simp only [List.length_cons]; omega
    have happ2 : ((⟨#[122]⟩ : ByteArray) ++ (⟨(94 :: Lib.itoa (n : Int)).toArray⟩ : ByteArray)) = ⟨(122 :: 94 :: Lib.itoa (n : Int)).toArray⟩ := ba_app [122] _
    go_enter Tryz.func115, Tryz.ntmps115
    go_wp2_with fail
    refine (Itoa_c _ (by omega) (by omega) _ hT).mono ?_
    rintro e w1 ⟨rfl, hb⟩
    go_wp2_with fail
    go_ret
    exact ⟨by rw [letterL, if_pos h1]; rfl, hb⟩
  · go_enter Tryz.func115, Tryz.ntmps115
    go_wp2_with fail
    go_ret
    exact ⟨by rw [letterL, if_neg h1]; rfl, Below.refl _ _⟩
set_option maxRecDepth 100000 in
set_option maxHeartbeats 1000000 in
theorem letter_3 (w : World) (n : Nat) (hn : n < 65536) (hT : Tab w) :
    Calls Tryz.prog 115 #[.int .i64 3, .int .u16 n] w (RetStr w (letterL 3 n)) := by
  have hl := itoa_small n hn
  have hcat1 : (⟨#[94]⟩ : ByteArray).size + (⟨(Lib.itoa (n : Int)).toArray⟩ : ByteArray).size ≤ 9223372036854775807 := by show 1 + (Lib.itoa (n : Int)).length ≤ _; omega
  have happ1 : ((⟨#[94]⟩ : ByteArray) ++ (⟨(Lib.itoa (n : Int)).toArray⟩ : ByteArray)) = ⟨(94 :: Lib.itoa (n : Int)).toArray⟩ := ba_app [94] _
  have hnw : IntKind.i64.wrap (n : Int) = n := IntWalk.i64_in _ (by omega)
  have hex : (⟨#[120, 121, 122, 116]⟩ : ByteArray).extract 3 4 = ⟨#[116]⟩ := by rfl
  by_cases h1 : 1 < n
  · have hcat2 : (⟨#[116]⟩ : ByteArray).size + (⟨(94 :: Lib.itoa (n : Int)).toArray⟩ : ByteArray).size ≤ 9223372036854775807 := by show 1 + (94 :: Lib.itoa (n : Int)).length ≤ _; simp only [List.length_cons]; omega
    have happ2 : ((⟨#[116]⟩ : ByteArray) ++ (⟨(94 :: Lib.itoa (n : Int)).toArray⟩ : ByteArray)) = ⟨(116 :: 94 :: Lib.itoa (n : Int)).toArray⟩ := ba_app [116] _
    go_enter Tryz.func115, Tryz.ntmps115
    go_wp2_with fail
    refine (Itoa_c _ (by omega) (by omega) _ hT).mono ?_
    rintro e w1 ⟨rfl, hb⟩
    go_wp2_with fail
    go_ret
    exact ⟨by rw [letterL, if_pos h1]; rfl, hb⟩
  · go_enter Tryz.func115, Tryz.ntmps115
    go_wp2_with fail
    go_ret
    exact ⟨by rw [letterL, if_neg h1]; rfl, Below.refl _ _⟩
theorem letter_c (w : World) (i n : Nat) (hi : i < 4) (hn : n < 65536) (hT : Tab w) :
    Calls Tryz.prog 115 #[.int .i64 i, .int .u16 n] w (RetStr w (letterL i n)) := by
  match i, hi with
  | 0, _ => exact letter_0 w n hn hT
  | 1, _ => exact letter_1 w n hn hT
  | 2, _ => exact letter_2 w n hn hT
  | 3, _ => exact letter_3 w n hn hT
set_option maxRecDepth 100000 in
/-- amount: the number above without its sign; whether it has one. -/
theorem amount_c (w : World) (g1 : Bool) (a1 : Option Addr) (n1 c1 : Nat) (g2 : Bool) (a2 : Option Addr) (n2 c2 : Nat) :
    Calls Tryz.prog 37 #[.agg #[.bool g1, .slice a1 n1 c1, .bool g2, .slice a2 n2 c2]] w fun e w' => e = .returned (.tuple #[.agg #[.bool false, .slice a1 n1 c1, .bool g2, .slice a2 n2 c2], .bool g1]) ∧ Below w.heap.size w w' := by
  have HB := Below.refl w.heap.size w
  go_enter Tryz.func37, Tryz.ntmps37
  go_wp2_with fail
  refine bodyPost_ret (v := .tuple #[.agg #[.bool false, .slice a1 n1 c1, .bool g2, .slice a2 n2 c2], .bool g1]) (by simp [results, Tryz.results37, go_sem]) rfl ?_
  exact ⟨rfl, by go_grown⟩
end Go.Proofs.YtdamegaedmckbaaGreatDoor
end
