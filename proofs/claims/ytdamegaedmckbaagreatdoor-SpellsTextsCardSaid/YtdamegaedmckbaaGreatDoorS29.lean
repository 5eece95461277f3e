/- The document's answer, layer 1: Neg. Decimal digits, written from the lowest on; sums and differences of amounts, part by part. No program. -/
import Derived.Test.YtdamegaedmckbaaGreatDoorS28
import Derived.Test.YtdamegaedmckbaaGreatDoorS18
import Derived.Test.YtdamegaedmckbaaGreatDoorS11
set_option linter.unusedSimpArgs false
set_option linter.unusedVariables false
section
set_option linter.unusedSimpArgs false
namespace Go.Proofs.YtdamegaedmckbaaGreatDoor
open Go.RowKit

theorem sgn_of {z : Int} (g : Bool) (h : g = decide (z < 0)) : sgn (!g) (val (dg z.natAbs)) = -z := by
  rw [val_dg, h]
  by_cases hz : z < 0
  · simp [sgn, hz]; omega
  · simp [sgn, hz]; omega

set_option maxRecDepth 100000 in
set_option maxHeartbeats 1000000 in
theorem rNeg_c (w : World) (g : Bool) (a : Option Addr) (n c : Nat) (z : Int) (h : NumAt w g a n c z) :
    Calls Tryz.prog 121 #[.agg #[.bool g, .slice a n c]] w (RetNum w (-z)) := by
  have HB := Below.refl w.heap.size w
  go_enter Tryz.func121, Tryz.ntmps121
  go_wp2_with fail
  refine (rFit_c _ _ _ _ _ _ (h.keep (by go_grown))).mono ?_
  rintro e w1 ⟨rfl, hb⟩
  obtain ⟨hc, hf⟩ := bcell hb; have hz := hb.size; (try simp only [World.size_alloc, World.size_drew] at hz)
  replace HB : Below w.heap.size w w1 := Below.trans (by go_grown) (hb.mono (by go_size))
  have s0_0 : w1.cell? ⟨w.heap.size, 0, none⟩ = some (.bool g) := (hc _ _ (by go_size)).trans (by first | assumption | (simp [go_sem]; done) | (simp [*, go_sem]; done)); have s0_1 : w1.cell? ⟨w.heap.size, 1, none⟩ = some (.slice a n c) := (hc _ _ (by go_size)).trans (by first | assumption | (simp [go_sem]; done) | (simp [*, go_sem]; done)); have s1_0 : w1.cell? ⟨w.heap.size + 1, 0, none⟩ = some (.bool false) := (hc _ _ (by go_size)).trans (by first | assumption | (simp [go_sem]; done) | (simp [*, go_sem]; done)); have s1_1 : w1.cell? ⟨w.heap.size + 1, 1, none⟩ = some (.slice none 0 0) := (hc _ _ (by go_size)).trans (by first | assumption | (simp [go_sem]; done) | (simp [*, go_sem]; done)); have f1_0 : w1.frozen? ⟨w.heap.size + 1, 0, none⟩ = false := (hf _ _ (by go_size)).trans (by first | assumption | (simp [go_sem]; done) | (simp [*, go_sem]; done)); have f1_1 : w1.frozen? ⟨w.heap.size + 1, 1, none⟩ = false := (hf _ _ (by go_size)).trans (by first | assumption | (simp [go_sem]; done) | (simp [*, go_sem]; done)); have f0_0 : w1.frozen? ⟨w.heap.size, 0, none⟩ = false := (hf _ _ (by go_size)).trans (by first | assumption | (simp [go_sem]; done) | (simp [*, go_sem]; done)); have f0_1 : w1.frozen? ⟨w.heap.size, 1, none⟩ = false := (hf _ _ (by go_size)).trans (by first | assumption | (simp [go_sem]; done) | (simp [*, go_sem]; done))
  have hk1 : w.heap.size + 1 < w1.heap.size := by omega
  clear hc hf hb hz
  go_wp2_with fail
  refine (rTwin_c _ _ _ _ _ z (h.keep (by go_grown))).mono ?_
  rintro e w2 ⟨g2, a2, n2, c2, rfl, hn2, hfr2, hb⟩
  obtain ⟨hc, hf⟩ := bcell hb; have hz := hb.size; (try simp only [World.size_alloc, World.size_drew] at hz)
  replace HB : Below w.heap.size w w2 := Below.trans (by go_grown) (hb.mono (by go_size))
  have s0_0 : w2.cell? ⟨w.heap.size, 0, none⟩ = some (.bool g) := (hc _ _ (by go_size)).trans (by first | assumption | (simp [go_sem]; done) | (simp [*, go_sem]; done)); have s0_1 : w2.cell? ⟨w.heap.size, 1, none⟩ = some (.slice a n c) := (hc _ _ (by go_size)).trans (by first | assumption | (simp [go_sem]; done) | (simp [*, go_sem]; done)); have s1_0 : w2.cell? ⟨w.heap.size + 1, 0, none⟩ = some (.bool false) := (hc _ _ (by go_size)).trans (by first | assumption | (simp [go_sem]; done) | (simp [*, go_sem]; done)); have s1_1 : w2.cell? ⟨w.heap.size + 1, 1, none⟩ = some (.slice none 0 0) := (hc _ _ (by go_size)).trans (by first | assumption | (simp [go_sem]; done) | (simp [*, go_sem]; done)); have f1_0 : w2.frozen? ⟨w.heap.size + 1, 0, none⟩ = false := (hf _ _ (by go_size)).trans (by first | assumption | (simp [go_sem]; done) | (simp [*, go_sem]; done)); have f1_1 : w2.frozen? ⟨w.heap.size + 1, 1, none⟩ = false := (hf _ _ (by go_size)).trans (by first | assumption | (simp [go_sem]; done) | (simp [*, go_sem]; done)); have f0_0 : w2.frozen? ⟨w.heap.size, 0, none⟩ = false := (hf _ _ (by go_size)).trans (by first | assumption | (simp [go_sem]; done) | (simp [*, go_sem]; done)); have f0_1 : w2.frozen? ⟨w.heap.size, 1, none⟩ = false := (hf _ _ (by go_size)).trans (by first | assumption | (simp [go_sem]; done) | (simp [*, go_sem]; done))
  have hk2 : w.heap.size + 1 < w2.heap.size := by omega
  clear hc hf hb
  go_wp2_with fail
  have HG := Lib.hid hn2.neg
  refine (rnum_c _ _ _ _ _ (dg z.natAbs) (((hn2.rd.setFresh hfr2 _ _ (by show w.heap.size < _; omega)).setFresh (hfr2.setNew _ _ (by show w.heap.size < _; omega)) _ _ (by show w.heap.size < _; omega))) (dg_lt _)).mono ?_
  rintro e w3 ⟨g3, n3, rfl, hn3, hnum3, hb⟩
  obtain ⟨hc, hf⟩ := bcell hb; have hz := hb.size; (try simp only [World.size_alloc, World.size_drew] at hz)
  replace HB : Below w.heap.size w w3 := Below.trans (by go_grown) (hb.mono (by go_size))
  have s1_0 : w3.cell? ⟨w.heap.size + 1, 0, none⟩ = some (.bool false) := (hc _ _ (by go_size)).trans (by first | assumption | (simp [go_sem]; done) | (simp [*, go_sem]; done)); have s1_1 : w3.cell? ⟨w.heap.size + 1, 1, none⟩ = some (.slice none 0 0) := (hc _ _ (by go_size)).trans (by first | assumption | (simp [go_sem]; done) | (simp [*, go_sem]; done)); have f1_0 : w3.frozen? ⟨w.heap.size + 1, 0, none⟩ = false := (hf _ _ (by go_size)).trans (by first | assumption | (simp [go_sem]; done) | (simp [*, go_sem]; done)); have f1_1 : w3.frozen? ⟨w.heap.size + 1, 1, none⟩ = false := (hf _ _ (by go_size)).trans (by first | assumption | (simp [go_sem]; done) | (simp [*, go_sem]; done))
  rw [sgn_of g2 HG.out] at hnum3
  have hfr3 : Fresh (w.heap.size + 1 + 1) w3 a2 c2 := ((((hfr2.setNew _ _ (by show w.heap.size < _; omega)).setNew _ _ (by show w.heap.size < _; omega)).keep hb).mono (by omega))
  have hk3 : w.heap.size + 1 < w3.heap.size := by simp at hz; omega
  clear hc hf hb
  go_wp2_with fail
  refine bodyPost_ret (v := .agg #[.bool g3, .slice a2 n3 c2]) (by simp [results, Tryz.results121, go_sem, s1_0, s1_1]) rfl ?_
  refine ⟨g3, a2, n3, c2, rfl, ?_, ((hfr3.setNew _ _ (by show w.heap.size + 1 < _; omega)).setNew _ _ (by show w.heap.size + 1 < _; omega)).mono (by omega), by go_grown⟩
  exact (hnum3.setFresh hfr3 _ _ (by show w.heap.size + 1 < _; omega)).setFresh (hfr3.setNew _ _ (by show w.heap.size + 1 < _; omega)) _ _ (by show w.heap.size + 1 < _; omega)
end Go.Proofs.YtdamegaedmckbaaGreatDoor
end
section
namespace Go.Proofs.YtdamegaedmckbaaGreatDoor

theorem padD_front (k : Nat) : ∀ x : Nat, padD (k + 1) x = UInt8.ofNat (48 + x / 10 ^ k % 10) :: padD k x := by
  induction k with
  | zero => intro x; simp [padD]
  | succ k ih =>
    intro x
    rw [padD, ih (x / 10), Nat.div_div_eq_div_mul, Nat.pow_succ, Nat.mul_comm 10]
    rfl

theorem padD_app (j : Nat) (X : Nat) (m : Nat) : ∀ Y : Nat, Y < 10 ^ m → padD (j + m) (X * 10 ^ m + Y) = padD j X ++ padD m Y := by
  induction m with
  | zero => intro Y hY; have : Y = 0 := by simpa using hY
            subst this; simp [padD]
  | succ m ih =>
    intro Y hY
    have h1 : 10 ^ (m + 1) = 10 ^ m * 10 := Nat.pow_succ ..
    have h2 : X * 10 ^ (m + 1) = X * 10 ^ m * 10 := by rw [h1, Nat.mul_assoc]
    rw [← Nat.add_assoc, padD, padD, h2]
    have h3 : (X * 10 ^ m * 10 + Y) / 10 = X * 10 ^ m + Y / 10 := by omega
    have h4 : (X * 10 ^ m * 10 + Y) % 10 = Y % 10 := by omega
    rw [h3, h4, ih (Y / 10) (by omega), List.append_assoc]

theorem padD_dec (k : Nat) : ∀ x : Nat, x < 10 ^ (k + 1) → (k = 0 ∨ 10 ^ k ≤ x) → padD (k + 1) x = Lib.decDigits x := by
  induction k with
  | zero =>
    intro x hx _
    have hx : x < 10 := by simpa using hx
    rw [Lib.decDigits, dif_pos hx]
    simp [padD, Nat.mod_eq_of_lt hx]
  | succ k ih =>
    intro x hx h
    have h1 : 10 ^ (k + 1 + 1) = 10 ^ (k + 1) * 10 := Nat.pow_succ ..
    have h2 : 10 ^ (k + 1) = 10 ^ k * 10 := Nat.pow_succ ..
    have h3 : 0 < 10 ^ k := Nat.pow_pos (by omega)
    have h4 : 10 ^ (k + 1) ≤ x := h.resolve_left (by omega)
    rw [padD, ih (x / 10) (by omega) (by omega), Lib.decDigits.eq_1 x, dif_neg (by omega)]

/-- The digits of the first i parts, nine each. -/
def lowD (d : List Nat) (i : Nat) : List UInt8 := padD (9 * i) (val (d.take i))

theorem val_take_step (d : List Nat) (i : Nat) : val (d.take (i + 1)) = val (d.take i) + 1000000000 ^ i * d.getD i 0 := by
  by_cases hi : i < d.length
  · exact val_take_succ d i hi
  · rw [List.take_of_length_le (by omega), List.take_of_length_le (by omega)]
    simp [List.getD, List.getElem?_eq_none (Nat.le_of_not_lt hi)]

theorem val_take_lt {d : List Nat} (h : ∀ x ∈ d, x < 1000000000) (i : Nat) : val (d.take i) < 1000000000 ^ i := by
  have h1 := val_lt (d.take i) (fun x hx => h x (List.mem_of_mem_take hx))
  exact Nat.lt_of_lt_of_le h1 (Nat.pow_le_pow_right (by omega) (by rw [List.length_take]; omega))

theorem pow9 (i : Nat) : 1000000000 ^ i = 10 ^ (9 * i) := by rw [Nat.pow_mul]

theorem lowD_zero (d : List Nat) : lowD d 0 = [] := rfl
theorem lowD_succ {d : List Nat} (h : ∀ x ∈ d, x < 1000000000) (i : Nat) : lowD d (i + 1) = padD 9 (d.getD i 0) ++ lowD d i := by
  rw [lowD, lowD, val_take_step, pow9, Nat.add_comm (val _), Nat.mul_comm (10 ^ (9 * i)), show 9 * (i + 1) = 9 + 9 * i by omega]
  exact padD_app 9 _ _ _ (by rw [← pow9]; exact val_take_lt h i)

theorem lowD_length (d : List Nat) (i : Nat) : (lowD d i).length = 9 * i := by
  have : ∀ k x, (padD k x).length = k := by
    intro k
    induction k with
    | zero => intro x; rfl
    | succ k ih => intro x; simp [padD, ih]
  exact this _ _

theorem padD_length (k x : Nat) : (padD k x).length = k := by
  induction k generalizing x with
  | zero => rfl
  | succ k ih => simp [padD, ih]

theorem lowD_end {d : List Nat} (h : ∀ x ∈ d, x < 1000000000) (i : Nat) (hl : d.length = i + 1) (hx : 0 < d.getD i 0) : Lib.decDigits (d.getD i 0) ++ lowD d i = Lib.decDigits (val d) := by
  have e : val d = d.getD i 0 * 10 ^ (9 * i) + val (d.take i) := by
    conv => lhs; rw [← List.take_of_length_le (show d.length ≤ i + 1 by omega)]
    rw [val_take_step, pow9, Nat.add_comm, Nat.mul_comm]
  rw [e, lowD, decDigits_pad _ _ _ hx (by rw [← pow9]; exact val_take_lt h i)]

theorem more_step {l d d' : List Nat} {k v : Nat} (hl : l.length = k) (h : val l + 1000000000 ^ k * v = val (d.take k) + val (d'.take k)) (t : Nat) (ht : t = v + d.getD k 0 + d'.getD k 0) :
    val (l ++ [t % 1000000000]) + 1000000000 ^ (k + 1) * (t / 1000000000) = val (d.take (k + 1)) + val (d'.take (k + 1)) := by
  rw [val_snoc, hl, val_take_step, val_take_step, Nat.pow_succ, Nat.mul_assoc, Nat.add_assoc, ← Nat.mul_add]
  have e : t % 1000000000 + 1000000000 * (t / 1000000000) = t := by omega
  rw [e, ht, Nat.mul_add, Nat.mul_add]
  omega

theorem less_step {l d d' : List Nat} {k v v' x : Nat} (hl : l.length = k) (h : val l + val (d'.take k) = val (d.take k) + 1000000000 ^ k * v) (hx : x + v + d'.getD k 0 = d.getD k 0 + 1000000000 * v') :
    val (l ++ [x]) + val (d'.take (k + 1)) = val (d.take (k + 1)) + 1000000000 ^ (k + 1) * v' := by
  rw [val_snoc, hl, val_take_step, val_take_step, Nat.pow_succ, Nat.mul_assoc]
  have e := congrArg (1000000000 ^ k * ·) hx
  simp only [Nat.mul_add] at e
  omega

theorem less_end {l d d' : List Nat} {k v : Nat} (hl : l.length = k) (hlt : ∀ x ∈ l, x < 1000000000) (h : val l + val d' = val d + 1000000000 ^ k * v) (hv : val d' ≤ val d) : val l = val d - val d' := by
  have h1 := val_lt l hlt
  rw [hl] at h1
  rcases Nat.eq_zero_or_pos v with rfl | hp
  · omega
  · have := Nat.mul_le_mul_left (1000000000 ^ k) hp
    omega
end Go.Proofs.YtdamegaedmckbaaGreatDoor
end
