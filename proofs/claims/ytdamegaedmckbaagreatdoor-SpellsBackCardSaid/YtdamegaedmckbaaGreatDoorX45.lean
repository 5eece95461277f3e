/- Plain: what is read of a text, written again, is not too long. No condition. SpellsBack: the law's own walk. Conditions: the variables that strconv asks. SpellsBack: the law's own walk, its last step. Conditions: the variables that strconv asks. -/
import Derived.Test.YtdamegaedmckbaaGreatDoorX37
import Derived.Test.YtdamegaedmckbaaGreatDoorX44
set_option linter.unusedSimpArgs false
set_option linter.unusedVariables false
section
namespace Go.Proofs.YtdamegaedmckbaaGreatDoor
open Go.RowKit

/-- How many decimal digits. -/
def dl (n : Nat) : Nat := (Lib.decDigits n).length
theorem dl_lt (n : Nat) : n < 10 ^ dl n := by
  unfold dl
  rw [Lib.decDigits_length]
  exact Lib.lt_pow_nDigits n
theorem dl_pos (n : Nat) : 0 < dl n := (digitsB_all (dec_read n).1).2
theorem dl_le {n k : Nat} (hk : 0 < k) (h : n < 10 ^ k) : dl n ≤ k := dec_few hk h
theorem dl_mono {a b : Nat} (h : a ≤ b) : dl a ≤ dl b := dl_le (dl_pos b) (Nat.lt_of_le_of_lt h (dl_lt b))
theorem dl_mul {a b i j : Nat} (ha : dl a ≤ i) (hb : dl b ≤ j) : dl (a * b) ≤ i + j := by
  have h1 := dl_pos a
  refine dl_le (by omega) ?_
  rw [Nat.pow_add]
  have k1 : a < 10 ^ i := Nat.lt_of_lt_of_le (dl_lt a) (Nat.pow_le_pow_right (by omega) ha)
  have k2 : b < 10 ^ j := Nat.lt_of_lt_of_le (dl_lt b) (Nat.pow_le_pow_right (by omega) hb)
  exact Nat.mul_lt_mul'' k1 k2
theorem dl_add {a b i : Nat} (ha : dl a ≤ i) (hb : dl b ≤ i) : dl (a + b) ≤ i + 1 := by
  refine dl_le (by omega) ?_
  have k1 : a < 10 ^ i := Nat.lt_of_lt_of_le (dl_lt a) (Nat.pow_le_pow_right (by omega) ha)
  have k2 : b < 10 ^ i := Nat.lt_of_lt_of_le (dl_lt b) (Nat.pow_le_pow_right (by omega) hb)
  rw [Nat.pow_succ]
  omega
/-- At most so many digits above, and below. -/
def DigC (K : Nat) (c : PC) : Prop := dl c.1.natAbs ≤ K ∧ dl c.2.natAbs ≤ K
theorem DigC.mono {K K' : Nat} {c : PC} (h : DigC K c) (hK : K ≤ K') : DigC K' c := ⟨Nat.le_trans h.1 hK, Nat.le_trans h.2 hK⟩
theorem low_abs (a b : Int) : (lowP a b).natAbs ≤ a.natAbs ∧ (lowQ a b).natAbs ≤ b.natAbs := by
  unfold lowP lowQ
  exact ⟨Int.natAbs_ediv_le_natAbs .., Int.natAbs_ediv_le_natAbs ..⟩
theorem DigC.mul {i j : Nat} {c d : PC} (hc : DigC i c) (hd : DigC j d) : DigC (i + j) (mulC c d) := by
  obtain ⟨h1, h2⟩ := low_abs (c.1 * d.1) (c.2 * d.2)
  rw [Int.natAbs_mul] at h1 h2
  exact ⟨Nat.le_trans (dl_mono h1) (dl_mul hc.1 hd.1), Nat.le_trans (dl_mono h2) (dl_mul hc.2 hd.2)⟩
theorem DigC.add {i j : Nat} {c d : PC} (hc : DigC i c) (hd : DigC j d) : DigC (i + j + 1) (addC c d) := by
  obtain ⟨h1, h2⟩ := low_abs (c.1 * d.2 + d.1 * c.2) (c.2 * d.2)
  have h3 : (c.1 * d.2 + d.1 * c.2).natAbs ≤ c.1.natAbs * d.2.natAbs + d.1.natAbs * c.2.natAbs := by
    refine Nat.le_trans (Int.natAbs_add_le _ _) ?_
    rw [Int.natAbs_mul, Int.natAbs_mul]
    exact Nat.le_refl _
  rw [Int.natAbs_mul] at h2
  have k1 := dl_mul hc.1 hd.2
  have k2 := dl_mul hd.1 hc.2
  rw [Nat.add_comm j i] at k2
  have k3 := dl_mul hc.2 hd.2
  refine ⟨?_, ?_⟩
  · exact Nat.le_trans (dl_mono (Nat.le_trans h1 h3)) (dl_add k1 k2)
  · exact Nat.le_trans (dl_mono h2) (by omega)
/-- How many digits a fraction has at most. -/
def wC (c : PC) : Nat := max (dl c.1.natAbs) (dl c.2.natAbs)
theorem digC_w (c : PC) : DigC (wC c) c := ⟨Nat.le_max_left .., Nat.le_max_right ..⟩
theorem w_of {c : PC} {K : Nat} (h : DigC K c) : wC c ≤ K := Nat.max_le.2 h
/-- The digits of a sum, all of them. -/
def wL (l : List PT) : Nat := (l.map fun t => wC t.2).sum
theorem wL_cons (t : PT) (l : List PT) : wL (t :: l) = wC t.2 + wL l := by simp [wL]
theorem wL_add (a b : List PT) : wL (addL a b) ≤ wL a + wL b + b.length := by
  induction a, b using addL.induct with
  | case1 b => rw [addL]; omega
  | case2 x a => rw [addL]; omega
  | case3 x a y b hlt ih => rw [addL, if_pos hlt, wL_cons, wL_cons x a]; omega
  | case4 x a y b h1 h2 ih => rw [addL, if_neg h1, if_pos h2, wL_cons, wL_cons y b, List.length_cons]; omega
  | case5 x a y b h1 h2 h3 ih => rw [addL, if_neg h1, if_neg h2, if_pos h3, wL_cons, wL_cons, List.length_cons]; omega
  | case6 x a y b h1 h2 h3 ih =>
    have := w_of (DigC.add (digC_w x.2) (digC_w y.2))
    rw [addL, if_neg h1, if_neg h2, if_neg h3, wL_cons, wL_cons x a, wL_cons y b, List.length_cons, show wC (x.1, addC x.2 y.2).2 = wC (addC x.2 y.2) from rfl]
    omega
theorem dl_one : dl 1 = 1 := by unfold dl; rw [Lib.decDigits]; rfl
theorem dl_zero : dl 0 = 1 := by unfold dl; rw [Lib.decDigits]; rfl
theorem numZ_dl {d : List UInt8} (h : digitsB d = true) : dl (numZ d) ≤ d.length := by
  obtain ⟨h1, h2⟩ := digitsB_all h
  unfold numZ
  split
  · rw [dl_zero]; omega
  · exact dl_le h2 (numN_lt h1)
theorem mkFr_dig {n d K : Nat} (h1 : dl n ≤ K) (h2 : dl d ≤ K) (hK : 1 ≤ K) : DigC K (mkFr n d) := by
  unfold mkFr
  split
  · exact ⟨by show dl 0 ≤ K; rw [dl_zero]; exact hK, by show dl 1 ≤ K; rw [dl_one]; exact hK⟩
  · obtain ⟨a, b⟩ := low_abs (n : Int) (d : Int)
    rw [Int.natAbs_natCast] at a b
    exact ⟨Nat.le_trans (dl_mono a) h1, Nat.le_trans (dl_mono b) h2⟩
theorem rdFrac_dig {L : List UInt8} {many : Bool} {c : PC} {r : List UInt8} {m : Bool} (h : rdFrac L many = some (c, r, m)) : DigC (L.length - r.length) c := by
  unfold rdFrac at h
  split at h
  · cases h
  · next t r' m' h' =>
    have h1 := rdNum_len h'
    have k1 := numZ_dl (rdNum_digits h')
    split at h
    · split at h
      · cases h
      · next l r'' m'' h'' =>
        have h2 := rdPos_len h''
        have k2 := numZ_dl (rdNum_digits (rdPos_num h'').1)
        have h3 : r'.tail.length ≤ r'.length := by simp
        cases h
        exact mkFr_dig (by omega) (by omega) (by omega)
    · cases h
      exact mkFr_dig (by omega) (by rw [dl_one]; omega) (by omega)
theorem rdFactor_dig {s t : TS} (h : rdFactor s = some t) {K : Nat} (hK : DigC K s.c) : DigC (K + (s.L.length - t.L.length)) t.c := by
  unfold rdFactor at h
  split at h
  · cases h
  · next b r hL =>
    split at h
    · split at h
      · cases h
      · cases h; exact hK.mono (by omega)
    · split at h
      · cases h
      · next c r' m h' =>
        have := rdFrac_dig h'
        cases h
        rw [hL]
        exact hK.mul this
theorem rdLoop_dig : ∀ (n : Nat) (s : TS) {t : TS}, s.L.length ≤ n → rdLoop s = some t → ∀ {K : Nat}, DigC K s.c → DigC (K + (s.L.length - t.L.length)) t.c
  | 0, s, t, hn, h, _, _ => by have := rdLoop_len _ h; omega
  | n + 1, s, t, hn, h, K, hK => by
    obtain ⟨hs, u, hu, hh⟩ := rdLoop_cases h
    have g2 := rdFactor_dig hu hK
    have h1 := rdFactor_len hu
    have h2 := skp_le u.L
    have h3 := skp_le (skp u.L).tail
    have h4 : (skp u.L).tail.length ≤ (skp u.L).length := by simp
    rcases hh with ⟨_, h5⟩ | ⟨_, _, h5⟩ | ⟨_, _, h5⟩
    · have h6 := rdLoop_len _ h5
      refine (rdLoop_dig n _ (by show (skp (skp u.L).tail).length ≤ n; omega) h5 g2).mono ?_
      simp only at h6 ⊢
      omega
    · have h6 := rdLoop_len _ h5
      refine (rdLoop_dig n _ (by show (skp u.L).length ≤ n; omega) h5 g2).mono ?_
      simp only at h6 ⊢
      omega
    · subst h5
      refine g2.mono ?_
      show _ ≤ K + (s.L.length - (skp u.L).length)
      omega
theorem one_dig (neg : Bool) : DigC 1 ((if neg then -1 else 1, 1) : PC) := by
  cases neg <;> exact ⟨by show dl 1 ≤ 1; rw [dl_one]; exact Nat.le_refl _, by show dl 1 ≤ 1; rw [dl_one]; exact Nat.le_refl _⟩
theorem rdTerm_w {L : List UInt8} {many neg : Bool} {l : List PT} {r : List UInt8} {m : Bool} (h : rdTerm L many neg = some (l, r, m)) : wL l ≤ 1 + (L.length - r.length) := by
  unfold rdTerm at h
  split at h
  · cases h
  · next t ht =>
    have h0 := skp_le L
    have g := rdLoop_dig _ _ (Nat.le_refl _) ht (one_dig neg)
    have h1 := rdLoop_len _ ht
    cases h
    simp only at g h1
    unfold oneT
    split
    · show (0 : Nat) ≤ _; omega
    · rw [wL_cons]
      have := w_of g
      show wC t.c + 0 ≤ _
      omega
theorem rdMore_w : ∀ (n : Nat) (p : List PT) (L : List UInt8) (many : Bool) {l : List PT} {m : Bool}, L.length ≤ n → rdMore p L many = some (l, m) → wL l ≤ wL p + 2 * L.length ∧ 2 * l.length ≤ 2 * p.length + L.length
  | n, p, [], many, l, m, hn, h => by
    rw [rdMore] at h
    cases h
    exact ⟨by omega, by omega⟩
  | 0, p, b :: r, many, l, m, hn, h => by simp at hn
  | n + 1, p, b :: r, many, l, m, hn, h => by
    rw [rdMore] at h
    split at h
    · split at h
      · cases h
      · next l' r' m' h' =>
        have g1 := rdTerm_w h'
        have g3 := (rdTerm_good h').2.2
        have h1 := rdTerm_len h'
        have h2 := addL_length p l'
        have h3 := wL_add p l'
        simp only [List.length_cons] at hn
        obtain ⟨g4, g5⟩ := rdMore_w n _ r' m' (by omega) h
        refine ⟨?_, ?_⟩
        · simp only [List.length_cons]; omega
        · simp only [List.length_cons]; omega
    · cases h
theorem rdSum_w {L : List UInt8} {l : List PT} {m : Bool} (h : rdSum L = some (l, m)) : wL l ≤ 1 + 2 * L.length ∧ 2 * l.length ≤ 2 + L.length := by
  unfold rdSum at h
  split at h
  · cases h
  · next l1 r m1 ht =>
    have g1 := rdTerm_w ht
    have g3 := (rdTerm_good ht).2.2
    have h1 := rdTerm_len ht
    have h2 := skp_le L
    have h3 : (if headIs (skp L) 45 = true then (skp L).tail else skp L).length ≤ L.length := by
      split
      · simp; omega
      · omega
    obtain ⟨k1, k2⟩ := rdMore_w _ _ _ _ (Nat.le_refl _) h
    exact ⟨by omega, by omega⟩
theorem nu_len (p q : Nat) : (Fa.nu p q).text.length ≤ dl p + dl q + 1 := by
  show (ftext p q).length ≤ _
  unfold ftext dl
  rw [itoa_nat, itoa_nat, List.length_append]
  split
  · simp only [List.length_nil]; omega
  · simp only [List.length_cons]; omega
theorem body_w {x : PT} (hx : ∀ i, i < 4 → expo x.1 i ≤ 1000) : (bodyW [32] x).length ≤ 2 * wC x.2 + 30 := by
  have h1 := join_len (letF (expo x.1) 4) [32] 6 (letF_short hx 4 (by omega))
  have h2 := letF_few (expo x.1)
  have h3 : (letF (expo x.1) 4).length * (6 + [(32 : UInt8)].length) ≤ 4 * 7 := Nat.mul_le_mul h2 (by simp)
  have h4 := nu_len x.2.1.natAbs x.2.2.natAbs
  have h5 := (digC_w x.2).1
  have h6 := (digC_w x.2).2
  unfold bodyW facs
  split
  · by_cases he : letF (expo x.1) 4 = []
    · rw [he]
      simp only [List.map_cons, List.map_nil, Lib.join_one]
      omega
    · rw [List.map_cons, join_cons2 (by simpa using he), List.length_append, List.length_append, List.length_singleton]
      omega
  · omega
theorem tail_w {xs : List PT} (hx : ∀ x ∈ xs, ∀ i, i < 4 → expo x.1 i ≤ 1000) : (tailW [32] [32] xs).length ≤ 2 * wL xs + 33 * xs.length := by
  induction xs with
  | nil => simp [tailW, tailG]
  | cons x xs ih =>
    have h1 := ih fun y hy => hx y (by simp [hy])
    have h4 := body_w (hx x (by simp))
    have e : tailW [32] [32] (x :: xs) = ([32] ++ (sgC (sgB x) :: ([32] ++ bodyW [32] x))) ++ tailW [32] [32] xs := by simp [tailW, tailG]
    rw [e, wL_cons]
    simp only [List.length_append, List.length_cons, List.length_nil]
    omega
/-- What is read of a text of 3000 bytes at most is written in fewer bytes than there may be. -/
theorem text_w {L : List UInt8} (hL : L.length ≤ 3000) {l : List PT} {m : Bool} (h : rdSum L = some (l, m)) (hx : ∀ x ∈ l, ∀ i, i < 4 → expo x.1 i ≤ 1000) : (sumW [32] [32] l).length ≤ 65536 := by
  obtain ⟨h1, h2⟩ := rdSum_w h
  cases l with
  | nil => simp [sumW]
  | cons x xs =>
    have h3 := tail_w (xs := xs) fun y hy => hx y (by simp [hy])
    have h4 := body_w (hx x (by simp))
    rw [wL_cons] at h1
    rw [List.length_cons] at h2
    rw [sumW, List.length_append, List.length_append]
    have h5 : (if sgB x then [(45 : UInt8)] else []).length ≤ 1 := by split <;> simp
    omega
end Go.Proofs.YtdamegaedmckbaaGreatDoor
end
section
namespace Go.Proofs.YtdamegaedmckbaaGreatDoor
open Go.RowKit

theorem letF_short2 {m : Nat → Nat} (hm : ∀ i, i < 4 → m i < 65536) : ∀ k, k ≤ 4 → ∀ f ∈ letF m k, f.text.length ≤ 7 := by
  intro k
  induction k with
  | zero => intro _ f hf; cases hf
  | succ k ih =>
    intro hk f hf
    rw [letF, List.mem_append] at hf
    rcases hf with hf | hf
    · exact ih (by omega) f hf
    · split at hf
      · next h =>
        simp only [List.mem_singleton] at hf
        subst hf
        have h2 := hm k (by omega)
        have : (Lib.decDigits (m k)).length ≤ 5 := dec_few (by omega) (by omega)
        show (letterL k (m k)).length ≤ 7
        unfold letterL
        rw [itoa_nat]
        split
        · simp only [List.length_cons]; omega
        · simp
      · cases hf
theorem expo_lt {k : Nat} (h : k < 18446744073709551616) : ∀ i, i < 4 → expo k i < 65536 := by
  intro i hi
  unfold expo
  match i, hi with
  | 0, _ => show k / 281474976710656 < 65536; omega
  | 1, _ => show k / 4294967296 % 65536 < 65536; omega
  | 2, _ => show k / 65536 % 65536 < 65536; omega
  | 3, _ => show k % 65536 < 65536; omega
theorem body_w2 {x : PT} (hx : x.1 < 18446744073709551616) : (bodyW [32] x).length ≤ 2 * wC x.2 + 34 := by
  have h1 := join_len (letF (expo x.1) 4) [32] 7 (letF_short2 (expo_lt hx) 4 (by omega))
  have h2 := letF_few (expo x.1)
  have h3 : (letF (expo x.1) 4).length * (7 + [(32 : UInt8)].length) ≤ 4 * 8 := Nat.mul_le_mul h2 (by simp)
  have h4 := nu_len x.2.1.natAbs x.2.2.natAbs
  have h5 := (digC_w x.2).1
  have h6 := (digC_w x.2).2
  unfold bodyW facs
  split
  · by_cases he : letF (expo x.1) 4 = []
    · rw [he]
      simp only [List.map_cons, List.map_nil, Lib.join_one]
      omega
    · rw [List.map_cons, join_cons2 (by simpa using he), List.length_append, List.length_append, List.length_singleton]
      omega
  · omega
theorem tail_w2 {xs : List PT} (hx : ∀ x ∈ xs, x.1 < 18446744073709551616) : (tailW [32] [32] xs).length ≤ 2 * wL xs + 37 * xs.length := by
  induction xs with
  | nil => simp [tailW, tailG]
  | cons x xs ih =>
    have h1 := ih fun y hy => hx y (by simp [hy])
    have h4 := body_w2 (hx x (by simp))
    have e : tailW [32] [32] (x :: xs) = ([32] ++ (sgC (sgB x) :: ([32] ++ bodyW [32] x))) ++ tailW [32] [32] xs := by simp [tailW, tailG]
    rw [e, wL_cons]
    simp only [List.length_append, List.length_cons, List.length_nil]
    omega
/-- What is read, written again, is not too long for the reader's own reckoning. -/
theorem text_w2 {L : List UInt8} (hL : L.length ≤ 3000) {l : List PT} {m : Bool} (h : rdSum L = some (l, m)) (hx : PW l) : (sumW [32] [32] l).length ≤ 100000 := by
  obtain ⟨h1, h2⟩ := rdSum_w h
  cases l with
  | nil => simp [sumW]
  | cons x xs =>
    have h3 := tail_w2 (xs := xs) fun y hy => hx.key y (by simp [hy])
    have h4 := body_w2 (hx.key x (by simp))
    rw [wL_cons] at h1
    rw [List.length_cons] at h2
    rw [sumW, List.length_append, List.length_append]
    have h5 : (if sgB x then [(45 : UInt8)] else []).length ≤ 1 := by split <;> simp
    omega
/-- What lies there can be written, and read. -/
theorem at_fine {w : World} {B : Nat} {a : Option Addr} {n c : Nat} {l : List PT} (h : PolyAt w B a n c l) (hl : PW l) {p : Nat → Tm} (hp : RdP w a n c p) (hx : ∀ i x, l[i]? = some x → TmIs (p i) x ∧ Nw B (p i).n1 (p i).a1 ∧ Nw B (p i).n2 (p i).a2) (hf : FineP p n) : ∀ t ∈ l, FineT t := by
  intro t ht
  obtain ⟨i, hi, rfl⟩ := List.mem_iff_getElem.1 ht
  have hn : i < n := by have := h.len; omega
  have h1 := (hx i _ (List.getElem?_eq_getElem hi)).1
  have h2 := hp.tm i hn
  obtain ⟨h3, h4⟩ := hl.good _ ht
  obtain ⟨f1, f2, f3, f4, f5, f6⟩ := hf i hn
  refine ⟨h3, h4, ?_, ?_, fun k hk => ?_⟩
  · have := dec_dg (u := (l[i]).2.1.natAbs) (K := 20) (by omega) (by rw [← h1.d1, h2.top.len]; exact f1)
    omega
  · have := dec_dg (u := (l[i]).2.2.natAbs) (K := 20) (by omega) (by rw [← h1.d2, h2.low.len]; exact f2)
    omega
  · have e : expo (l[i]).1 = quadN (p i).m0 (p i).m1 (p i).m2 (p i).m3 := by rw [← h1.key]; exact expo_key h2.s1 h2.s2 h2.s3
    rw [e]
    match k, hk with
    | 0, _ => exact f3
    | 1, _ => exact f4
    | 2, _ => exact f5
    | 3, _ => exact f6
/-- A sum that is written is read as it. -/
theorem back_text {l : List PT} (hl : Falls l) (hx : ∀ x ∈ l, FineT x) (hlen : (txL l).length ≤ 65536) : rdText (txL l) = (l, 0) := by
  have h := sum_read (s := [32]) (b := [32]) (b0 := []) (e := []) hl hx (.inl ⟨rfl, by simp⟩) rfl rfl rfl
  simp only [List.nil_append, List.append_nil] at h
  exact rdText_of hlen h
end Go.Proofs.YtdamegaedmckbaaGreatDoor
end
section
namespace Go.Proofs.YtdamegaedmckbaaGreatDoor
open Go.RowKit

set_option maxRecDepth 100000 in
set_option maxHeartbeats 4000000 in
theorem SpellsBack_c (w : World) (a : Option Addr) (n c : Nat) (p : Nat → Tm) (hp : RdP w a n c p) (hnl : a = none → c = 0) (s : List UInt8) (hls : s.length ≤ 140737488351232) (hT : Tab w) (hV : ErrV w) (h7 : 7 < w.heap.size) :
    Calls Tryz.prog 6 #[.slice a n c, .string ⟨s.toArray⟩] w (RetTrue w) := by
  have HB := Below.refl w.heap.size w
  have HN := Lib.hid hnl
  have al := fun (W : World) (hW : Below w.heap.size w W) => alive_c W (hT.keep hW) (hV.grown (grown_below hW none) (by simp)) (by have := hW.size; omega)
  have AL := Lib.hid al
  have parse := fun (W : World) (hW : Below w.heap.size w W) (L : List UInt8) (hL : L.length < 1000000000) => parse_c W L hL (hV.grown (grown_below hW none) (by simp)) (by have := hW.size; omega)
  have PARSE := Lib.hid parse
  clear hnl al parse
  go_enter Tryz.func6, Tryz.ntmps6
  go_wp2_with fail
  refine (AL.out w HB).mono ?_
  rintro e w1 ⟨rfl, hb1⟩
  have B1 := HB.trans (hb1.mono HB.size)
  have hs1 := B1.size
  go_wp2_with fail
  refine (Great_c _ w1.heap.size 60 a n c p (by omega) (by simp [go_sem]) (hp.keep (by go_grown))).mono ?_
  rintro e w2 ⟨r, rfl, hr, hb2⟩
  have B2 : Below w.heap.size w w2 := Below.trans (by go_grown) (hb2.mono (by have := B1.size; simp; omega))
  cases r
  · obtain ⟨hn, hsm⟩ := hr rfl
    have HSM := Lib.hid hsm
    clear hr hsm
    by_cases hbig : 3000 < s.length
    · have hbI : (3000 : Int) < (s.length : Int) := by omega
      go_wp2_with fail
      refine (AL.out w2 B2).mono ?_
      rintro e w3 ⟨rfl, hb3⟩
      go_wp2_with fail
      go_ret
      exact ⟨rfl, B2.trans (hb3.mono B2.size)⟩
    · have hbI : ¬ (3000 : Int) < (s.length : Int) := by omega
      obtain ⟨T, hTT⟩ : ∃ T, T = bothText p n := ⟨_, rfl⟩
      have HTT := Lib.hid hTT
      have TX := sText_c w2 a n c p (hp.keep B2) (fun k hk => by have := HSM.out k hk; omega) (by omega) (hT.keep B2)
      rw [← hTT] at TX
      clear hTT
      go_wp2_with fail
      refine TX.mono ?_
      rintro e w3 ⟨rfl, hb3⟩
      have B3 := B2.trans (hb3.mono B2.size)
      clear TX
      have hs : s.length ≤ 3000 := by omega
      obtain ⟨l, es, hrs⟩ : ∃ l es, rdText s = (l, es) := ⟨_, _, rfl⟩
      have HLS := Lib.hid hrs
      have HG := Lib.hid (rdText_good hrs)
      have HC : Hid ((es = 0 ∧ rdSum s = some (l, false)) ∨ (l = [] ∧ (es = 3 ∨ es = 4))) := Lib.hid (by
        rcases rdText_cases (show s.length ≤ 65536 by omega) with ⟨_, h2⟩ | ⟨x, _, h2⟩ | ⟨x, h1, h2⟩
        · rw [h2] at hrs; cases hrs; exact .inr ⟨rfl, .inr rfl⟩
        · rw [h2] at hrs; cases hrs; exact .inr ⟨rfl, .inl rfl⟩
        · rw [h2] at hrs; cases hrs; exact .inl ⟨rfl, h1⟩)
      clear hrs hbig hbI
      rcases Classical.em (POk p n) with hok | hok
      · have HOK := Lib.hid hok
        have hTl : T = txL (lst p n) := by
          rw [HTT.out]
          unfold bothText
          rw [if_pos hok]
          exact stext_at (arg_at hp hok HN.out) hp (fun i x hx => by
            have hi : i < n := by
              rcases Nat.lt_or_ge i n with h | h
              · exact h
              · rw [List.getElem?_eq_none (by rw [lst_len]; exact h)] at hx; cases hx
            rw [lst_get p hi] at hx
            obtain rfl := Option.some.inj hx
            exact ⟨tmX_is (hok i hi).1, .inr fun x _ => Nat.zero_le _, .inr fun x _ => Nat.zero_le _⟩)
        have HTL := Lib.hid hTl
        clear hok hTl
        go_wp2_with fail
        refine (pCheck_c w3 a n c p (hp.keep B3) (fun k hk => by have := HSM.out k hk; omega) true ⟨fun _ => rfl, fun _ => HOK.out⟩).mono ?_
        rintro e w4 ⟨rfl, hb4⟩
        have B4 := B3.trans (hb4.mono B3.size)
        rcases Classical.em (FineP p n) with hf | hf
        · have HF := Lib.hid hf
          clear hf
          go_wp2_with fail
          refine (fine_c w4 a n c p (hp.keep B4) true ⟨fun _ => rfl, fun _ => HF.out⟩).mono ?_
          rintro e w5 ⟨rfl, hb5⟩
          have B5 := B4.trans (hb5.mono B4.size)
          have FT := arg_fine hp HOK.out HF.out
          have hlen : (txL (lst p n)).length ≤ 1 + (lst p n).length * 447 := sum_len (s := [32]) (b := [32]) (by simp) (by simp) FT
          rw [lst_len] at hlen
          have PP := PARSE.out w5 B5 T (by rw [HTL.out]; omega)
          rw [HTL.out, back_text (arg_pw hp HOK.out).falls FT (by omega), ← HTL.out] at PP
          have PA5 := Lib.hid (arg_at (hp.keep B5) HOK.out HN.out)
          clear FT hlen
          go_wp2_with fail
          refine PP.mono ?_
          rintro e w6 ⟨a6, n6, c6, rfl, P6, hb6⟩
          have B6 := B5.trans (hb6.mono B5.size)
          go_wp2_with fail
          refine (same_c w6 _ a6 n6 c6 _ P6 _ a n c (PA5.out.keep hb6)).mono ?_
          rintro e w7 ⟨rfl, hb7⟩
          have B7 := B6.trans (hb7.mono B6.size)
          clear P6 PA5 PP
          go_wp2_with fail
          refine (pCheck_c w7 a n c p (hp.keep B7) (fun k hk => by have := HSM.out k hk; omega) true ⟨fun _ => rfl, fun _ => HOK.out⟩).mono ?_
          rintro e w8 ⟨rfl, hb8⟩
          have B8 := B7.trans (hb8.mono B7.size)
          have P1 := PARSE.out w8 B8 s (by omega)
          rw [HLS.out] at P1
          go_wp2_with fail
          refine P1.mono ?_
          rintro e wa ⟨a1, n1, c1, rfl, PA, hba⟩
          have BA := B8.trans (hba.mono B8.size)
          clear P1
          rcases HC.out with ⟨rfl, hsum⟩ | ⟨rfl, hes⟩
          · have hw2 := text_w2 hs hsum HG.out.1
            have hn1 : n1 ≤ 1000000 := by have h1 := PA.len; have h2 := HG.out.2.2; omega
            have HS := Lib.hid hsum
            clear hsum
            go_wp2_with fail
            refine (text_at wa _ a1 n1 c1 l PA HG.out.1 (HG.out.2.1.mono (by omega)) hn1 (hT.keep BA)).mono ?_
            rintro e wb ⟨rfl, hbb⟩
            have BB := BA.trans (hbb.mono BA.size)
            have PA2 := PA.keep hbb
            have P2 := PARSE.out wb BB (txL l) (by show (sumW [32] [32] l).length < _; omega)
            obtain ⟨p2, hp2, hx2⟩ := PA2.ts
            obtain ⟨U, hU⟩ : ∃ U, U = txL l := ⟨_, rfl⟩
            have HP2 := Lib.hid hp2
            rcases Classical.em (FineP p2 n1) with hf | hf
            · have FT := at_fine PA2 HG.out.1 hp2 hx2 hf
              have hlen := text_w hs HS.out (fun x hx => (FT x hx).pow)
              rw [back_text HG.out.1.falls FT hlen] at P2
              rw [← hU] at P2 ⊢
              have HU := Lib.hid hU
              have HF := Lib.hid hf
              have HPA := Lib.hid PA2
              clear hU hf FT hlen hx2 hp2 PA2 PA
              go_wp2_with fail
              refine P2.mono ?_
              rintro e wc ⟨a3, n3, c3, rfl, P3, hbc⟩
              have BC := BB.trans (hbc.mono BB.size)
              have hn3 : n3 ≤ 1000000 := by have h1 := P3.len; have h2 := HG.out.2.2; omega
              go_wp2_with fail
              refine (fine_c wc a1 n1 c1 p2 (HP2.out.keep hbc) true ⟨fun _ => rfl, fun _ => HF.out⟩).mono ?_
              rintro e wd ⟨rfl, hbd⟩
              have BD := BC.trans (hbd.mono BC.size)
              go_wp2_with fail
              refine (check_at wd _ a1 n1 c1 l ((HPA.out.keep hbc).keep hbd) HG.out.1 (HG.out.2.1.mono (by omega))).mono ?_
              rintro e we ⟨rfl, hbe⟩
              have BE := BD.trans (hbe.mono BD.size)
              go_wp2_with fail
              refine (same_c we _ a3 n3 c3 l ((P3.keep hbd).keep hbe) _ a1 n1 c1 (((HPA.out.keep hbc).keep hbd).keep hbe)).mono ?_
              rintro e wf ⟨rfl, hbf⟩
              have BF := BE.trans (hbf.mono BE.size)
              go_wp2_with fail
              refine (text_at wf _ a3 n3 c3 l (((P3.keep hbd).keep hbe).keep hbf) HG.out.1 (HG.out.2.1.mono (by omega)) hn3 (hT.keep BF)).mono ?_
              rintro e wg ⟨rfl, hbg⟩
              rw [← HU.out]
              go_wp2_with fail
              go_ret
              exact ⟨by simp, BF.trans (hbg.mono BF.size)⟩
            · obtain ⟨l3, e3, h3⟩ : ∃ l3 e3, rdText (txL l) = (l3, e3) := ⟨_, _, rfl⟩
              rw [h3] at P2
              rw [← hU] at P2 ⊢
              have HF := Lib.hid hf
              have HPA := Lib.hid PA2
              clear hU hf hx2 hp2 PA2 PA h3
              go_wp2_with fail
              refine P2.mono ?_
              rintro e wc ⟨a3, n3, c3, rfl, P3, hbc⟩
              have BC := BB.trans (hbc.mono BB.size)
              go_wp2_with fail
              refine (fine_c wc a1 n1 c1 p2 (HP2.out.keep hbc) false ⟨fun h => absurd h HF.out, fun h => by cases h⟩).mono ?_
              rintro e wd ⟨rfl, hbd⟩
              have BD := BC.trans (hbd.mono BC.size)
              go_wp2_with fail
              refine (check_at wd _ a1 n1 c1 l ((HPA.out.keep hbc).keep hbd) HG.out.1 (HG.out.2.1.mono (by omega))).mono ?_
              rintro e we ⟨rfl, hbe⟩
              go_wp2_with fail
              go_ret
              exact ⟨by simp, BD.trans (hbe.mono BD.size)⟩
          · obtain rfl : n1 = 0 := PA.len.symm
            rcases hes with rfl | rfl
            · go_wp2_with fail
              go_ret
              exact ⟨by simp, BA⟩
            · go_wp2_with fail
              go_ret
              exact ⟨by simp, BA⟩
        · have HF := Lib.hid hf
          clear hf
          go_wp2_with fail
          refine (fine_c w4 a n c p (hp.keep B4) false ⟨fun h => absurd h HF.out, fun h => by cases h⟩).mono ?_
          rintro e w5 ⟨rfl, hb5⟩
          have B5 := B4.trans (hb5.mono B4.size)
          go_wp2_with fail
          refine (pCheck_c w5 a n c p (hp.keep B5) (fun k hk => by have := HSM.out k hk; omega) true ⟨fun _ => rfl, fun _ => HOK.out⟩).mono ?_
          rintro e w8 ⟨rfl, hb8⟩
          have B8 := B5.trans (hb8.mono B5.size)
          have P1 := PARSE.out w8 B8 s (by omega)
          rw [HLS.out] at P1
          go_wp2_with fail
          refine P1.mono ?_
          rintro e wa ⟨a1, n1, c1, rfl, PA, hba⟩
          have BA := B8.trans (hba.mono B8.size)
          clear P1
          rcases HC.out with ⟨rfl, hsum⟩ | ⟨rfl, hes⟩
          · have hw2 := text_w2 hs hsum HG.out.1
            have hn1 : n1 ≤ 1000000 := by have h1 := PA.len; have h2 := HG.out.2.2; omega
            have HS := Lib.hid hsum
            clear hsum
            go_wp2_with fail
            refine (text_at wa _ a1 n1 c1 l PA HG.out.1 (HG.out.2.1.mono (by omega)) hn1 (hT.keep BA)).mono ?_
            rintro e wb ⟨rfl, hbb⟩
            have BB := BA.trans (hbb.mono BA.size)
            have PA2 := PA.keep hbb
            have P2 := PARSE.out wb BB (txL l) (by show (sumW [32] [32] l).length < _; omega)
            obtain ⟨p2, hp2, hx2⟩ := PA2.ts
            obtain ⟨U, hU⟩ : ∃ U, U = txL l := ⟨_, rfl⟩
            have HP2 := Lib.hid hp2
            rcases Classical.em (FineP p2 n1) with hf | hf
            · have FT := at_fine PA2 HG.out.1 hp2 hx2 hf
              have hlen := text_w hs HS.out (fun x hx => (FT x hx).pow)
              rw [back_text HG.out.1.falls FT hlen] at P2
              rw [← hU] at P2 ⊢
              have HU := Lib.hid hU
              have HF := Lib.hid hf
              have HPA := Lib.hid PA2
              clear hU hf FT hlen hx2 hp2 PA2 PA
              go_wp2_with fail
              refine P2.mono ?_
              rintro e wc ⟨a3, n3, c3, rfl, P3, hbc⟩
              have BC := BB.trans (hbc.mono BB.size)
              have hn3 : n3 ≤ 1000000 := by have h1 := P3.len; have h2 := HG.out.2.2; omega
              go_wp2_with fail
              refine (fine_c wc a1 n1 c1 p2 (HP2.out.keep hbc) true ⟨fun _ => rfl, fun _ => HF.out⟩).mono ?_
              rintro e wd ⟨rfl, hbd⟩
              have BD := BC.trans (hbd.mono BC.size)
              go_wp2_with fail
              refine (check_at wd _ a1 n1 c1 l ((HPA.out.keep hbc).keep hbd) HG.out.1 (HG.out.2.1.mono (by omega))).mono ?_
              rintro e we ⟨rfl, hbe⟩
              have BE := BD.trans (hbe.mono BD.size)
              go_wp2_with fail
              refine (same_c we _ a3 n3 c3 l ((P3.keep hbd).keep hbe) _ a1 n1 c1 (((HPA.out.keep hbc).keep hbd).keep hbe)).mono ?_
              rintro e wf ⟨rfl, hbf⟩
              have BF := BE.trans (hbf.mono BE.size)
              go_wp2_with fail
              refine (text_at wf _ a3 n3 c3 l (((P3.keep hbd).keep hbe).keep hbf) HG.out.1 (HG.out.2.1.mono (by omega)) hn3 (hT.keep BF)).mono ?_
              rintro e wg ⟨rfl, hbg⟩
              rw [← HU.out]
              go_wp2_with fail
              go_ret
              exact ⟨by simp, BF.trans (hbg.mono BF.size)⟩
            · obtain ⟨l3, e3, h3⟩ : ∃ l3 e3, rdText (txL l) = (l3, e3) := ⟨_, _, rfl⟩
              rw [h3] at P2
              rw [← hU] at P2 ⊢
              have HF := Lib.hid hf
              have HPA := Lib.hid PA2
              clear hU hf hx2 hp2 PA2 PA h3
              go_wp2_with fail
              refine P2.mono ?_
              rintro e wc ⟨a3, n3, c3, rfl, P3, hbc⟩
              have BC := BB.trans (hbc.mono BB.size)
              go_wp2_with fail
              refine (fine_c wc a1 n1 c1 p2 (HP2.out.keep hbc) false ⟨fun h => absurd h HF.out, fun h => by cases h⟩).mono ?_
              rintro e wd ⟨rfl, hbd⟩
              have BD := BC.trans (hbd.mono BC.size)
              go_wp2_with fail
              refine (check_at wd _ a1 n1 c1 l ((HPA.out.keep hbc).keep hbd) HG.out.1 (HG.out.2.1.mono (by omega))).mono ?_
              rintro e we ⟨rfl, hbe⟩
              go_wp2_with fail
              go_ret
              exact ⟨by simp, BD.trans (hbe.mono BD.size)⟩
          · obtain rfl : n1 = 0 := PA.len.symm
            rcases hes with rfl | rfl
            · go_wp2_with fail
              go_ret
              exact ⟨by simp, BA⟩
            · go_wp2_with fail
              go_ret
              exact ⟨by simp, BA⟩
      · have HOK := Lib.hid hok
        have hT48 : T = [48] := by
          rw [HTT.out]
          unfold bothText
          rw [if_neg hok]
        subst hT48
        clear hok
        go_wp2_with fail
        refine (pCheck_c w3 a n c p (hp.keep B3) (fun k hk => by have := HSM.out k hk; omega) false ⟨fun h => absurd h HOK.out, fun h => by cases h⟩).mono ?_
        rintro e w4 ⟨rfl, hb4⟩
        have B4 := B3.trans (hb4.mono B3.size)
        go_wp2_with fail
        refine (pCheck_c w4 a n c p (hp.keep B4) (fun k hk => by have := HSM.out k hk; omega) false ⟨fun h => absurd h HOK.out, fun h => by cases h⟩).mono ?_
        rintro e w8 ⟨rfl, hb8⟩
        have B8 := B4.trans (hb8.mono B4.size)
        have P1 := PARSE.out w8 B8 s (by omega)
        rw [HLS.out] at P1
        go_wp2_with fail
        refine P1.mono ?_
        rintro e wa ⟨a1, n1, c1, rfl, PA, hba⟩
        have BA := B8.trans (hba.mono B8.size)
        clear P1
        rcases HC.out with ⟨rfl, hsum⟩ | ⟨rfl, hes⟩
        · have hw2 := text_w2 hs hsum HG.out.1
          have hn1 : n1 ≤ 1000000 := by have h1 := PA.len; have h2 := HG.out.2.2; omega
          have HS := Lib.hid hsum
          clear hsum
          go_wp2_with fail
          refine (text_at wa _ a1 n1 c1 l PA HG.out.1 (HG.out.2.1.mono (by omega)) hn1 (hT.keep BA)).mono ?_
          rintro e wb ⟨rfl, hbb⟩
          have BB := BA.trans (hbb.mono BA.size)
          have PA2 := PA.keep hbb
          have P2 := PARSE.out wb BB (txL l) (by show (sumW [32] [32] l).length < _; omega)
          obtain ⟨p2, hp2, hx2⟩ := PA2.ts
          obtain ⟨U, hU⟩ : ∃ U, U = txL l := ⟨_, rfl⟩
          have HP2 := Lib.hid hp2
          rcases Classical.em (FineP p2 n1) with hf | hf
          · have FT := at_fine PA2 HG.out.1 hp2 hx2 hf
            have hlen := text_w hs HS.out (fun x hx => (FT x hx).pow)
            rw [back_text HG.out.1.falls FT hlen] at P2
            rw [← hU] at P2 ⊢
            have HU := Lib.hid hU
            have HF := Lib.hid hf
            have HPA := Lib.hid PA2
            clear hU hf FT hlen hx2 hp2 PA2 PA
            go_wp2_with fail
            refine P2.mono ?_
            rintro e wc ⟨a3, n3, c3, rfl, P3, hbc⟩
            have BC := BB.trans (hbc.mono BB.size)
            have hn3 : n3 ≤ 1000000 := by have h1 := P3.len; have h2 := HG.out.2.2; omega
            go_wp2_with fail
            refine (fine_c wc a1 n1 c1 p2 (HP2.out.keep hbc) true ⟨fun _ => rfl, fun _ => HF.out⟩).mono ?_
            rintro e wd ⟨rfl, hbd⟩
            have BD := BC.trans (hbd.mono BC.size)
            go_wp2_with fail
            refine (check_at wd _ a1 n1 c1 l ((HPA.out.keep hbc).keep hbd) HG.out.1 (HG.out.2.1.mono (by omega))).mono ?_
            rintro e we ⟨rfl, hbe⟩
            have BE := BD.trans (hbe.mono BD.size)
            go_wp2_with fail
            refine (same_c we _ a3 n3 c3 l ((P3.keep hbd).keep hbe) _ a1 n1 c1 (((HPA.out.keep hbc).keep hbd).keep hbe)).mono ?_
            rintro e wf ⟨rfl, hbf⟩
            have BF := BE.trans (hbf.mono BE.size)
            go_wp2_with fail
            refine (text_at wf _ a3 n3 c3 l (((P3.keep hbd).keep hbe).keep hbf) HG.out.1 (HG.out.2.1.mono (by omega)) hn3 (hT.keep BF)).mono ?_
            rintro e wg ⟨rfl, hbg⟩
            rw [← HU.out]
            go_wp2_with fail
            go_ret
            exact ⟨by simp, BF.trans (hbg.mono BF.size)⟩
          · obtain ⟨l3, e3, h3⟩ : ∃ l3 e3, rdText (txL l) = (l3, e3) := ⟨_, _, rfl⟩
            rw [h3] at P2
            rw [← hU] at P2 ⊢
            have HF := Lib.hid hf
            have HPA := Lib.hid PA2
            clear hU hf hx2 hp2 PA2 PA h3
            go_wp2_with fail
            refine P2.mono ?_
            rintro e wc ⟨a3, n3, c3, rfl, P3, hbc⟩
            have BC := BB.trans (hbc.mono BB.size)
            go_wp2_with fail
            refine (fine_c wc a1 n1 c1 p2 (HP2.out.keep hbc) false ⟨fun h => absurd h HF.out, fun h => by cases h⟩).mono ?_
            rintro e wd ⟨rfl, hbd⟩
            have BD := BC.trans (hbd.mono BC.size)
            go_wp2_with fail
            refine (check_at wd _ a1 n1 c1 l ((HPA.out.keep hbc).keep hbd) HG.out.1 (HG.out.2.1.mono (by omega))).mono ?_
            rintro e we ⟨rfl, hbe⟩
            go_wp2_with fail
            go_ret
            exact ⟨by simp, BD.trans (hbe.mono BD.size)⟩
        · obtain rfl : n1 = 0 := PA.len.symm
          rcases hes with rfl | rfl
          · go_wp2_with fail
            go_ret
            exact ⟨by simp, BA⟩
          · go_wp2_with fail
            go_ret
            exact ⟨by simp, BA⟩
  · go_wp2_with fail
    refine (AL.out w2 B2).mono ?_
    rintro e w3 ⟨rfl, hb3⟩
    go_wp2_with fail
    go_ret
    exact ⟨rfl, B2.trans (hb3.mono B2.size)⟩
end Go.Proofs.YtdamegaedmckbaaGreatDoor
end
