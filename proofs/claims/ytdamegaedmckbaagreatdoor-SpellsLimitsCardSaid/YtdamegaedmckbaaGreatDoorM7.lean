/- Package limbs: short: an amount by one part. No condition. The document's answer, layer 1: Check, Fit, Sign, num. Decimal digits of a number given by its parts. No program. Decimal digits, written from the lowest on; sums and differences of amounts, part by part. No program. The document's answer, layer 1: more, less. Plain words for the product by hand: a row is added, part by part. No program. -/
import Derived.Test.YtdamegaedmckbaaGreatDoorM6
import Derived.Test.YtdamegaedmckbaaGreatDoorM2
import Derived.Lib.ItoaNum
import Derived.Lib.Repeat
import Derived.Deep.AppendLies
set_option linter.unusedSimpArgs false
set_option linter.unusedVariables false
section
namespace Go.Proofs.YtdamegaedmckbaaGreatDoor
open Go.RowKit

theorem drop_val (d : List Nat) (j : Nat) (h : j < d.length) : val (d.drop j) = d.getD j 0 + 1000000000 * val (d.drop (j + 1)) := by
  rw [List.drop_eq_getElem_cons h, val]
  simp [List.getD, List.getElem?_eq_getElem h]
/-- One step of the division by one part. -/
theorem short_step (a H by' : Nat) (hb : 0 < by') :
    (a + 1000000000 * H) / by' = (H % by' * 1000000000 + a) / by' + 1000000000 * (H / by') ∧ (a + 1000000000 * H) % by' = (H % by' * 1000000000 + a) % by' := by
  have e : a + 1000000000 * H = (H % by' * 1000000000 + a) + by' * (1000000000 * (H / by')) := by
    have h1 := Nat.mod_add_div H by'
    generalize H % by' = r at *
    generalize H / by' = q at *
    subst h1
    rw [Nat.mul_add, Nat.mul_left_comm by' 1000000000 q]
    omega
  constructor
  · rw [e, Nat.add_mul_div_left _ _ hb]
  · rw [e, Nat.add_mul_mod_self_left]
theorem short_digit (a r by' : Nat) (hb : 0 < by') (hr : r < by') (ha : a < 1000000000) : (r * 1000000000 + a) / by' < 1000000000 := by
  rw [Nat.div_lt_iff_lt_mul hb]
  have : r * 1000000000 + 1000000000 ≤ by' * 1000000000 := by
    have := Nat.mul_le_mul_right 1000000000 (show r + 1 ≤ by' from hr)
    omega
  rw [Nat.mul_comm]
  omega
def RetShort (w : World) (n by' : Nat) (d : List Nat) (e : Ending) (w' : World) : Prop :=
  ∃ a q, e = .returned (.tuple #[.slice a n n, .int .u32 ((val d % by' : Nat) : Int)]) ∧ RdL w' a n n q ∧ val q = val d / by' ∧ (∀ x ∈ q, x < 1000000000) ∧ Fresh w.heap.size w' a n ∧ Below w.heap.size w w'
set_option maxRecDepth 100000 in
set_option maxHeartbeats 1000000 in
theorem short_c (w : World) (a : Option Addr) (n c : Nat) (d : List Nat) (by' : Nat) (hd : RdL w a n c d) (hlt : ∀ x ∈ d, x < 1000000000) (hb0 : 0 < by') (hb1 : by' < 4294967296) :
    Calls Tryz.prog 258 #[.slice a n c, .int .u32 by'] w (RetShort w n by' d) := by
  obtain ⟨i0, hi, hz0, hz1, hz2⟩ := info_parts info112
  have hlen := hd.len
  have hn := hd.few
  have HLT := Lib.hid hlt
  clear hlt
  go_enter Tryz.func258, Tryz.ntmps258
  go_wp2_with (refine wpList_make_full _ rfl _ _ 57 rfl w.heap.size 112 i0 (.int .u32 0) 1 Tryz.underlying57 hi hz0 hz1 .i64 .i64 _ _ n rfl rfl rfl rfl (by rw [hz2]; omega) (by unfold maxLen; omega) (Nat.le_refl _) ?_; intro w1 hown1 hgrow1)
  have HB : Below w.heap.size w w1 := (Below.refl _ _).grown hgrow1 (Nat.le_refl _) (fun k h => by cases h)
  rw [Nat.mul_one, show Value.cells (.int .u32 0) = #[.int .u32 0] from rfl, toList_madeCells_one] at hown1
  clear hgrow1
  go_loopw [6, 7] (fun v6 v7 wr => ∃ (k r : Nat) (q : List Nat), k ≤ n ∧ v7 = .int .i64 ((k : Int) - 1) ∧ v6 = .int .u64 r ∧ r < by' ∧ Hid (r = val (d.drop k) % by') ∧ Hid (val q = val (d.drop k) / by') ∧ Hid (q.length = n - k) ∧ Hid (∀ x ∈ q, x < 1000000000) ∧
      wr.ownsRow w.heap.size 112 1 (.slice (some ⟨w.heap.size, 0, none⟩) n n) n (List.replicate k (.int .u32 0) ++ vals q) ∧ Below w.heap.size w wr) (fun _ v7 _ => (intOf v7 + 1).toNat)
  case atStart => exact ⟨n, 0, [], Nat.le_refl _, rfl, rfl, hb0, Lib.hid (by rw [List.drop_of_length_le (by omega)]; simp [val]), Lib.hid (by rw [List.drop_of_length_le (by omega)]; simp [val]), Lib.hid (by simp), Lib.hid (fun x hx => (by cases hx)), by simpa [vals] using hown1, HB⟩
  case round =>
    obtain ⟨k, r, q, hk, rfl, rfl, hrb, hr, hq, hql, hqlt, hown, HB⟩ := hrel
    have HBz := HB.size
    have hlt1 := (hown.lt w.heap.size rfl).2
    clear hown1
    match k with
    | 0 =>
      rw [show ((0 : Nat) : Int) - 1 = -1 from rfl]
      rw [List.replicate_zero, List.nil_append] at hown
      go_wp2_with fail
      go_ret2
      refine ⟨_, q, ?_, rdl_of_owns hown hn (fun i => lim_small_of_lt (fun x hx => by have := hqlt.out x hx; omega) i), ?_, hqlt.out, .of_owns hown, HB⟩
      · have := hr.out
        rw [List.drop_zero] at this
        rw [← this]; rfl
      · have := hq.out
        rwa [List.drop_zero] at this
    | j + 1 =>
      rw [show ((j + 1 : Nat) : Int) - 1 = (j : Int) from by omega]
      obtain ⟨b, o, rfl, c1⟩ := (hd.keep HB).at' (i := j) (by omega)
      have hs := hd.small j
      have ha : d.getD j 0 < 1000000000 := by
        rw [List.getD, List.getElem?_eq_getElem (by omega)]
        exact HLT.out _ (List.getElem_mem (by omega))
      have hlim : lim d j = ((d.getD j 0 : Nat) : Int) := rfl
      have hst := short_step (d.getD j 0) (val (d.drop (j + 1))) by' hb0
      rw [← drop_val d j (by omega), ← hr.out, ← hq.out] at hst
      have HST := Lib.hid hst
      have hdg := short_digit (d.getD j 0) r by' hb0 hrb ha
      have hmod := Nat.mod_lt (r * 1000000000 + d.getD j 0) hb0
      have t1 : ((r : Int) * 1000000000 + lim d j) / (by' : Int) = (((r * 1000000000 + d.getD j 0) / by' : Nat) : Int) := by rw [hlim]; simp
      have t2 : ((r : Int) * 1000000000 + lim d j) % (by' : Int) = (((r * 1000000000 + d.getD j 0) % by' : Nat) : Int) := by rw [hlim]; simp
      have q1 : 0 ≤ ((r : Int) * 1000000000 + lim d j) / (by' : Int) := by rw [t1]; revert hdg; generalize (r * 1000000000 + d.getD j 0) / by' = X; intro h; omega
      have q2 : ((r : Int) * 1000000000 + lim d j) / (by' : Int) ≤ 999999999 := by rw [t1]; revert hdg; generalize (r * 1000000000 + d.getD j 0) / by' = X; intro h; omega
      have q3 : 0 ≤ ((r : Int) * 1000000000 + lim d j) % (by' : Int) := by rw [t2]; revert hmod; generalize (r * 1000000000 + d.getD j 0) % by' = X; intro h; omega
      have q4 : ((r : Int) * 1000000000 + lim d j) % (by' : Int) < by' := by rw [t2]; revert hmod; generalize (r * 1000000000 + d.getD j 0) % by' = X; intro h; omega
      have T1 := Lib.hid t1
      have T2 := Lib.hid t2
      have HM := Lib.hid hmod
      have HDG := Lib.hid hdg
      have hcell := hown.cellAt j (by omega)
      rw [List.getElem?_append_left (by simp), List.getElem?_replicate, if_pos (by omega)] at hcell
      have hfr := hown.frozenAt j
      have hb1' : (by' : Int) < 4294967296 := by omega
      have hb0' : (1 : Int) ≤ by' := by omega
      clear t1 t2 hst hlim ha hmod hdg
      go_wp2_with fail
      go_roundw
      case rel =>
        refine ⟨j, (r * 1000000000 + d.getD j 0) % by', (r * 1000000000 + d.getD j 0) / by' :: q, by omega, rfl, by rw [T2.out], HM.out, Lib.hid HST.out.2.symm, Lib.hid ?_, Lib.hid ?_, Lib.hid ?_, ?_, by go_grown⟩
        · rw [val]; exact HST.out.1.symm
        · have := hql.out; simp; omega
        · intro x hx
          rcases List.mem_cons.1 hx with rfl | hx
          · exact HDG.out
          · exact hqlt.out x hx
        · have := (hown.stored j (.int .u32 (((r : Int) * 1000000000 + lim d j) / (by' : Int)))).1
          rw [List.set_append_left _ _ (by simp), List.replicate_succ', List.set_append_right _ _ (by simp)] at this
          simp only [List.length_replicate, Nat.sub_self, List.set_cons_zero, List.append_assoc, List.singleton_append] at this
          rw [T1.out] at this ⊢
          exact this
      case measure => (first | (simp [intOf]; omega) | (simp [intOf]; done))
end Go.Proofs.YtdamegaedmckbaaGreatDoor
end
section
namespace Go.Proofs.YtdamegaedmckbaaGreatDoor
open Go.RowKit
theorem lim_of_lt {d : List Nat} (h : ∀ x ∈ d, x < 1000000000) (i : Nat) : lim d i < 1000000000 := by
  by_cases hi : i < d.length
  · have := h _ (List.getElem_mem hi)
    simp only [lim, List.getD, List.getElem?_eq_getElem hi, Option.getD_some]
    omega
  · rw [lim_out (by omega)]; omega
end Go.Proofs.YtdamegaedmckbaaGreatDoor
end
section
namespace Go.Proofs.YtdamegaedmckbaaGreatDoor

/-- The last k digits. -/
def padD : Nat → Nat → List UInt8
  | 0, _ => []
  | k + 1, x => padD k (x / 10) ++ [UInt8.ofNat (48 + x % 10)]
theorem decDigits_pad (k : Nat) : ∀ hi x : Nat, 0 < hi → x < 10 ^ k → Lib.decDigits (hi * 10 ^ k + x) = Lib.decDigits hi ++ padD k x := by
  induction k with
  | zero =>
    intro hi x _ hx
    have : x = 0 := by simpa using hx
    simp [this, padD]
  | succ k ih =>
    intro hi x hh hx
    have h1 : 10 ^ (k + 1) = 10 ^ k * 10 := Nat.pow_succ ..
    have h2 : hi * 10 ^ (k + 1) = hi * 10 ^ k * 10 := by rw [h1, Nat.mul_assoc]
    have h3 : 0 < hi * 10 ^ k := Nat.mul_pos hh (Nat.pow_pos (by omega))
    have h4 : ¬ hi * 10 ^ (k + 1) + x < 10 := by omega
    rw [Lib.decDigits, dif_neg h4]
    have h5 : (hi * 10 ^ (k + 1) + x) / 10 = hi * 10 ^ k + x / 10 := by omega
    have h6 : (hi * 10 ^ (k + 1) + x) % 10 = x % 10 := by omega
    rw [h5, h6, ih hi (x / 10) hh (by omega), padD, List.append_assoc]
theorem padD_eq (k : Nat) : ∀ x : Nat, x < 10 ^ (k + 1) → padD (k + 1) x = List.replicate (k + 1 - (Lib.decDigits x).length) 48 ++ Lib.decDigits x ∧ (Lib.decDigits x).length ≤ k + 1 := by
  induction k with
  | zero =>
    intro x hx
    have hx : x < 10 := by simpa using hx
    rw [Lib.decDigits, dif_pos hx]
    simp [padD, Nat.mod_eq_of_lt hx]
  | succ k ih =>
    intro x hx
    have h1 : 10 ^ (k + 1 + 1) = 10 ^ (k + 1) * 10 := Nat.pow_succ ..
    obtain ⟨h2, h3⟩ := ih (x / 10) (by omega)
    rw [padD, h2]
    by_cases h : x < 10
    · rw [Lib.decDigits, dif_pos (by omega : x / 10 < 10), Lib.decDigits, dif_pos h]
      have h0 : x / 10 = 0 := by omega
      rw [h0, Nat.mod_eq_of_lt h]
      refine ⟨?_, by simp⟩
      simp only [List.length_cons, List.length_nil, Nat.zero_add, Nat.add_sub_cancel]
      rw [List.replicate_succ']
      rfl
    · have e : Lib.decDigits x = Lib.decDigits (x / 10) ++ [UInt8.ofNat (48 + x % 10)] := by rw [Lib.decDigits, dif_neg h]
      rw [e]
      simp only [List.length_append, List.length_cons, List.length_nil, Nat.zero_add]
      refine ⟨?_, by omega⟩
      rw [List.append_assoc, show k + 1 + 1 - ((Lib.decDigits (x / 10)).length + 1) = k + 1 - (Lib.decDigits (x / 10)).length by omega]
theorem repeatL_zero (c : Nat) : Lib.repeatL [48] c = List.replicate c 48 := by
  induction c with
  | zero => rfl
  | succ c ih => rw [Lib.repeatL, ih]; rfl
/-- The text of some parts: none at no part. -/
def tx (l : List Nat) : List UInt8 := if l = [] then [] else Lib.decDigits (val l)
theorem tx_nil : tx [] = [] := rfl
theorem tx_one (x : Nat) : tx [x] = Lib.decDigits x := by
  rw [tx, if_neg (by simp), val, val, Nat.mul_zero, Nat.add_zero]
theorem dec_len {x : Nat} (hx : x < 1000000000) : (Lib.decDigits x).length ≤ 9 := (padD_eq 8 x hx).2
theorem tx_cons (x : Nat) (l : List Nat) (hx : x < 1000000000) (hl : l ≠ []) (hv : 0 < val l) : tx (x :: l) = tx l ++ (Lib.repeatL [48] (9 - (Lib.decDigits x).length) ++ Lib.decDigits x) := by
  rw [tx, if_neg (by simp), tx, if_neg hl, val, repeatL_zero, ← (padD_eq 8 x hx).1, ← decDigits_pad 9 (val l) x hv hx]
  congr 1
  rw [Nat.add_comm, Nat.mul_comm]
theorem tx_dg (n : Nat) (h : 0 < n) : tx (dg n) = Lib.decDigits n := by
  have h1 := val_dg n
  rw [tx, if_neg, h1]
  intro e
  rw [e, val] at h1
  omega
theorem canon_drop {d : List Nat} (h : Canon d) : ∀ j, Canon (d.drop j) := by
  intro j
  induction j generalizing d with
  | zero => simpa using h
  | succ j ih =>
    cases d with
    | nil => simpa using h
    | cons x d => exact ih h.tail
theorem drop_lim {d : List Nat} {j : Nat} (h : j < d.length) : d.drop j = (lim d j).toNat :: d.drop (j + 1) := by
  rw [List.drop_eq_getElem_cons h]
  congr 1
  simp [lim, List.getD, h]
end Go.Proofs.YtdamegaedmckbaaGreatDoor
end
section
namespace Go.Proofs.YtdamegaedmckbaaGreatDoor
theorem val_take_step (d : List Nat) (i : Nat) : val (d.take (i + 1)) = val (d.take i) + 1000000000 ^ i * d.getD i 0 := by
  by_cases hi : i < d.length
  · exact val_take_succ d i hi
  · rw [List.take_of_length_le (by omega), List.take_of_length_le (by omega)]
    simp [List.getD, List.getElem?_eq_none (Nat.le_of_not_lt hi)]
end Go.Proofs.YtdamegaedmckbaaGreatDoor
end
section
namespace Go.Proofs.YtdamegaedmckbaaGreatDoor
open Go.RowKit
theorem getD_out {d : List Nat} {i : Nat} (h : d.length ≤ i) : d.getD i 0 = 0 := by simp [List.getD, List.getElem?_eq_none h]
theorem getD_lt {d : List Nat} (h : ∀ x ∈ d, x < 1000000000) (i : Nat) : d.getD i 0 < 1000000000 := by
  by_cases hi : i < d.length
  · simp only [List.getD, List.getElem?_eq_getElem hi, Option.getD_some]; exact h _ (List.getElem_mem hi)
  · rw [getD_out (by omega)]; omega
end Go.Proofs.YtdamegaedmckbaaGreatDoor
end
section
namespace Go.Proofs.YtdamegaedmckbaaGreatDoor

theorem set_val : ∀ (l : List Nat) (j y : Nat), j < l.length → val (l.set j y) + 1000000000 ^ j * l.getD j 0 = val l + 1000000000 ^ j * y
  | [], j, y, h => by simp at h
  | x :: l, 0, y, _ => by simp [val]; omega
  | x :: l, j + 1, y, h => by
    have ih := set_val l j y (by simpa using h)
    simp only [List.set_cons_succ, val, List.getD_cons_succ, Nat.pow_succ]
    have e1 : 1000000000 ^ j * 1000000000 * l.getD j 0 = 1000000000 * (1000000000 ^ j * l.getD j 0) := by rw [Nat.mul_comm (1000000000 ^ j) 1000000000, Nat.mul_assoc]
    have e2 : 1000000000 ^ j * 1000000000 * y = 1000000000 * (1000000000 ^ j * y) := by rw [Nat.mul_comm (1000000000 ^ j) 1000000000, Nat.mul_assoc]
    rw [e1, e2]
    omega
/-- One part of a row: what stands there, and what is carried on. -/
theorem mul_step {l : List Nat} {j on V W t x y : Nat} (hj : j < l.length) (h : val l + 1000000000 ^ j * on = V + W) (ht : t = on + x * y + l.getD j 0) :
    val (l.set j (t % 1000000000)) + 1000000000 ^ (j + 1) * (t / 1000000000) = V + (W + 1000000000 ^ j * (x * y)) := by
  have h1 := set_val l j (t % 1000000000) hj
  have h2 := Nat.mod_add_div t 1000000000
  have h3 : 1000000000 ^ j * t = 1000000000 ^ j * (t % 1000000000) + 1000000000 ^ (j + 1) * (t / 1000000000) := by
    rw [Nat.pow_succ, Nat.mul_assoc, ← Nat.mul_add, h2]
  have h4 : 1000000000 ^ j * t = 1000000000 ^ j * on + 1000000000 ^ j * (x * y) + 1000000000 ^ j * l.getD j 0 := by rw [ht, Nat.mul_add, Nat.mul_add]
  omega
/-- The row's end: what is carried on comes to stand where nothing stood. -/
theorem mul_last {l : List Nat} {j on V W : Nat} (hj : j < l.length) (h : val l + 1000000000 ^ j * on = V + W) (hz : l.getD j 0 = 0) :
    val (l.set j on) = V + W := by
  have h1 := set_val l j on hj
  rw [hz] at h1
  omega
theorem mul_small {x y u on : Nat} (hx : x < 1000000000) (hy : y < 1000000000) (hu : u < 1000000000) (ho : on < 1000000000) : on + x * y + u < 1000000000 * 1000000000 := by
  have h := Nat.mul_le_mul (show x ≤ 999999999 by omega) (show y ≤ 999999999 by omega)
  omega
/-- The list after a row and after a part of the next one. -/
structure MulSt (da db : List Nat) (i k on : Nat) (l : List Nat) : Prop where
  len : l.length = da.length + db.length
  lt : ∀ x ∈ l, x < 1000000000
  zero : ∀ j, i + db.length ≤ j → l.getD j 0 = 0
  few : on < 1000000000
  eq : val l + 1000000000 ^ (i + k) * on = val (da.take i) * val db + da.getD i 0 * (1000000000 ^ i * val (db.take k))
theorem replicate_val (m : Nat) : val (List.replicate m 0) = 0 := val_zeros _ (fun x hx => (List.mem_replicate.1 hx).2)
theorem MulSt.start (da db : List Nat) : MulSt da db 0 0 0 (List.replicate (da.length + db.length) 0) where
  len := by simp
  lt _ hx := by rw [(List.mem_replicate.1 hx).2]; omega
  zero j _ := by simp only [List.getD, List.getElem?_replicate]; split <;> rfl
  few := by omega
  eq := by rw [replicate_val, List.take_zero, List.take_zero, show val [] = 0 from rfl, Nat.mul_zero, Nat.mul_zero, Nat.zero_mul]
theorem getD_set_other {l : List Nat} {j j' y : Nat} (h : j ≠ j') : (l.set j y).getD j' 0 = l.getD j' 0 := by
  simp only [List.getD, List.getElem?_set_ne h]
theorem mem_set_lt {l : List Nat} {j y : Nat} (h : ∀ x ∈ l, x < 1000000000) (hy : y < 1000000000) : ∀ x ∈ l.set j y, x < 1000000000 := by
  intro x hx
  rcases List.mem_or_eq_of_mem_set hx with hx | rfl
  · exact h x hx
  · exact hy
theorem MulSt.step {da db : List Nat} {i k on : Nat} {l : List Nat} (h : MulSt da db i k on l) (ha : ∀ x ∈ da, x < 1000000000) (hb : ∀ x ∈ db, x < 1000000000) (hi : i < da.length) (hk : k < db.length) {t : Nat} (ht : t = on + da.getD i 0 * db.getD k 0 + l.getD (i + k) 0) :
    MulSt da db i (k + 1) (t / 1000000000) (l.set (i + k) (t % 1000000000)) where
  len := by rw [List.length_set]; exact h.len
  lt := mem_set_lt h.lt (by omega)
  zero j hj := by rw [getD_set_other (by omega)]; exact h.zero j hj
  few := by
    have := mul_small (getD_lt ha i) (getD_lt hb k) (getD_lt h.lt (i + k)) h.few
    rw [← ht] at this
    exact Nat.div_lt_of_lt_mul this
  eq := by
    have hlen := h.len
    have := mul_step (j := i + k) (by omega) h.eq ht
    rw [val_take_step db k, show i + (k + 1) = i + k + 1 from rfl, this, Nat.mul_add, Nat.mul_add, Nat.pow_add]
    have e : 1000000000 ^ i * 1000000000 ^ k * (da.getD i 0 * db.getD k 0) = da.getD i 0 * (1000000000 ^ i * (1000000000 ^ k * db.getD k 0)) := by
      rw [Nat.mul_left_comm, Nat.mul_assoc]
    rw [e]
theorem MulSt.next {da db : List Nat} {i on : Nat} {l : List Nat} (h : MulSt da db i db.length on l) (hi : i < da.length) :
    MulSt da db (i + 1) 0 0 (l.set (i + db.length) on) where
  len := by rw [List.length_set]; exact h.len
  lt := mem_set_lt h.lt h.few
  zero j hj := by rw [getD_set_other (by omega)]; exact h.zero j (by omega)
  few := by omega
  eq := by
    have hlen := h.len
    have := mul_last (j := i + db.length) (by omega) h.eq (h.zero _ (Nat.le_refl _))
    rw [List.take_length] at this
    rw [Nat.mul_zero, Nat.add_zero, List.take_zero, show val [] = 0 from rfl, Nat.mul_zero, Nat.mul_zero, Nat.add_zero, this, val_take_step da i, Nat.add_mul, Nat.mul_comm (1000000000 ^ i) (da.getD i 0), Nat.mul_assoc]
theorem MulSt.done {da db : List Nat} {l : List Nat} (h : MulSt da db da.length 0 0 l) : val l = val da * val db := by
  have := h.eq
  rw [List.take_length, List.take_zero, show val [] = 0 from rfl, Nat.mul_zero, Nat.mul_zero, Nat.mul_zero, Nat.add_zero, Nat.add_zero] at this
  exact this
theorem mul_sgn {g g' : Bool} {z z' : Int} (h : g = decide (z < 0)) (h' : g' = decide (z' < 0)) : sgn (g != g') (val (dg z.natAbs) * val (dg z'.natAbs)) = z * z' := by
  rw [val_dg, val_dg]
  have e : ∀ x : Int, x = sgn (decide (x < 0)) x.natAbs := by
    intro x
    unfold sgn
    by_cases k : x < 0
    · rw [decide_eq_true k]; simp; omega
    · rw [decide_eq_false k]; simp; omega
  have e1 := e z
  have e2 := e z'
  rw [← h] at e1
  rw [← h'] at e2
  generalize z.natAbs = A at *
  generalize z'.natAbs = B at *
  rw [e1, e2]
  clear h h' e1 e2
  cases g <;> cases g' <;> simp [sgn, Int.neg_mul, Int.mul_neg]
end Go.Proofs.YtdamegaedmckbaaGreatDoor
end
