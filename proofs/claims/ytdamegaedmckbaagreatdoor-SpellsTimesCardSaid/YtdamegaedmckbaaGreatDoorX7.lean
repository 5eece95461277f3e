/- Package limbs: wide: an amount times one part. No further condition. Package limbs: below: is an amount less than another one, so many times? No further condition. A slice of numbers, cut in front or in the middle. No program's text. A region that draws its order, whose operations read and whose callees lay new memory alone and hand back one value: one walk in the text's order. No program. Plain words for the long division. No program. More plain words for the long division. No program. -/
import Derived.Test.YtdamegaedmckbaaGreatDoorX6
import Derived.Test.YtdamegaedmckbaaGreatDoorX0
import Derived.Test.YtdamegaedmckbaaGreatDoorX5
import Derived.BigQuiet
set_option linter.unusedSimpArgs false
set_option linter.unusedVariables false
section
namespace Go.Proofs.YtdamegaedmckbaaGreatDoor
open Go.RowKit

theorem carry_328' (w : World) (M : Int) (m : Nat) (hM : M = m) (c1 c2 : Value) (D : Nat → Int) (hm : m ≤ 35184372088832)
    (hD : ∀ i, i < m → -4000000000000000000 ≤ D i ∧ D i ≤ 4000000000000000000)
    (hcall : ∀ (i : Nat) (W : World), i < m → Below w.heap.size w W → Calls Tryz.prog 328 #[.int .i64 i, c1, c2] W fun e W' => e = .returned (.int .i64 (D i)) ∧ Below W.heap.size W W') :
    Calls Tryz.prog 271 #[.int .i64 M, .func (.func 328) #[] #[c1, c2]] w (RetCarry w m D) := by
  subst hM
  exact carry_328 w m c1 c2 D hm hD hcall
set_option maxHeartbeats 400000 in
theorem wide1_c (w : World) (A B : Nat) (a : Option Addr) (n c : Nat) (d : List Nat) (by' : Nat) (hb : by' < 1000000000) (i : Nat) (hd : RdL w a n c d) (hlt : lim d i < 1000000000)
    (h1 : w.cell? ⟨A, 0, none⟩ = some (.slice a n c)) (h2 : w.cell? ⟨B, 0, none⟩ = some (.int .u32 by')) :
    Calls Tryz.prog 328 #[.int .i64 i, .pointer (some ⟨A, 0, none⟩), .pointer (some ⟨B, 0, none⟩)] w fun e w' => e = .returned (.int .i64 (lim d i * by')) ∧ Below w.heap.size w w' := by
  have hs := hd.small i
  have h0 : 0 ≤ lim d i * (by' : Int) := Int.mul_nonneg hs.1 (by omega)
  have h1' : lim d i * (by' : Int) ≤ 999999999 * 999999999 := Int.mul_le_mul (by omega) (by omega) (by omega) (by omega)
  go_enter Tryz.func328, Tryz.ntmps328
  go_wp2
  go_quiet ((first | (go_at_call 273; first | exact quietL (part_c _ _ _ _ d i (hd.keep (below_drewN _ (Below.refl _ _)))) | exact quietAL (part_c _ _ _ _ d i (hd.keep (below_drewN _ (Below.refl _ _)))))))
  go_wp2
  go_ret
  exact ⟨rfl, below_drewN _ (Below.refl _ _)⟩
theorem mul_sum (d : List Nat) (k m : Nat) (h : d.length ≤ m) : sumB (fun i => lim d i * (k : Int)) m = ((val d * k : Nat) : Int) := by
  have e : sumB (fun i => lim d i * (k : Int)) m = sumB (fun i => (k : Int) * (fun i => lim d i) i) m := sumB_congr (fun i _ => Int.mul_comm _ _)
  rw [e, sumB_mul (fun i => lim d i), show sumB (fun i => lim d i) m = val d from sumB_list d m h]
  simp [Int.mul_comm]
/-- What 'wide' answers: one part more, the product. -/
def RetWide (w : World) (n N : Nat) (e : Ending) (w' : World) : Prop :=
  ∃ a, e = .returned (.slice a (n + 1) (n + 1)) ∧ RdL w' a (n + 1) (n + 1) (fx (n + 1) N) ∧ N < 1000000000 ^ (n + 1) ∧ Fresh w.heap.size w' a (n + 1) ∧ Below w.heap.size w w'
set_option maxRecDepth 100000 in
set_option maxHeartbeats 1000000 in
theorem wide_c (w : World) (a : Option Addr) (n c : Nat) (d : List Nat) (by' : Nat) (hd : RdL w a n c d) (hlt : ∀ x ∈ d, x < 1000000000) (hb : by' < 1000000000) (hn : n < 35184372088832) :
    Calls Tryz.prog 298 #[.slice a n c, .int .u32 by'] w (RetWide w n (val d * by')) := by
  have HB := Below.refl w.heap.size w
  have hlen := hd.len
  have HDD : Hid (∀ i, i < n + 1 → -4000000000000000000 ≤ (fun i => lim d i * (by' : Int)) i ∧ (fun i => lim d i * (by' : Int)) i ≤ 4000000000000000000) := Lib.hid (by
    intro i _
    have hs := hd.small i
    have h0 : 0 ≤ lim d i * (by' : Int) := Int.mul_nonneg hs.1 (by omega)
    have h1' : lim d i * (by' : Int) ≤ 999999999 * 999999999 := Int.mul_le_mul (by have := lim_of_lt hlt i; omega) (by omega) (by omega) (by omega)
    show -4000000000000000000 ≤ lim d i * (by' : Int) ∧ lim d i * (by' : Int) ≤ 4000000000000000000
    omega)
  have HL := Lib.hid hlt
  have HN : Hid (val d * by' < 1000000000 ^ (n + 1)) := Lib.hid (by
    have h1 := val_lt d hlt
    rw [hlen] at h1
    rw [Nat.pow_succ]
    exact Nat.mul_lt_mul'' h1 hb)
  clear hlt
  go_enter Tryz.func298, Tryz.ntmps298
  go_wp2_with fail
  refine (carry_328' _ _ (n + 1) (by omega) _ _ (fun i => lim d i * (by' : Int)) (by omega) HDD.out (fun i W hi hW => wide1_c W w.heap.size (w.heap.size + 1) a n c d by' hb i (hd.keep (Below.trans (by go_grown) (hW.mono (by go_size)))) (by have := lim_of_lt HL.out i; omega) (cell_keep hW (by simp [go_sem])) (cell_keep hW (by simp [go_sem])))).mono ?_
  rintro e w4 ⟨ac, rfl, hr, hfr, hb4⟩
  have HB4 : Below w.heap.size w w4 := Below.trans (by go_grown) (hb4.mono (by go_size))
  rw [mul_sum d by' (n + 1) (by omega), fxI_nat] at hr
  have hfr2 : Fresh w.heap.size w4 ac (n + 1) := hfr.mono (by go_size)
  go_wp2_with fail
  go_ret
  exact ⟨ac, rfl, hr, HN.out, hfr2, HB4⟩
end Go.Proofs.YtdamegaedmckbaaGreatDoor
end
section
namespace Go.Proofs.YtdamegaedmckbaaGreatDoor
open Go.RowKit

@[go_sem ↓] theorem field59_1 (w : World) (g : Bool) (a : Option Addr) (n c : Nat) : (Instr.field 59 (.agg #[.bool g, .slice a n c]) 1).run Tryz.prog w = .ok (.slice a n c) w := by kernel_rfl
set_option maxRecDepth 100000 in
set_option maxHeartbeats 1000000 in
theorem below_c (w : World) (a : Option Addr) (n c : Nat) (d : List Nat) (a' : Option Addr) (n' c' : Nat) (d' : List Nat) (k : Nat) (hd : RdL w a n c d) (hd' : RdL w a' n' c' d') (hlt : ∀ x ∈ d, x < 1000000000) (hlt' : ∀ x ∈ d', x < 1000000000)
    (hk : k < 1000000000) (hn' : n' < 35184372088832) :
    Calls Tryz.prog 300 #[.slice a n c, .slice a' n' c', .int .u64 k] w fun e w' => e = .returned (.bool (decide (val d < val d' * k))) ∧ Below w.heap.size w w' := by
  have HB := Below.refl w.heap.size w
  have HL := Lib.hid hlt
  have HL' := Lib.hid hlt'
  clear hlt hlt'
  go_enter Tryz.func300, Tryz.ntmps300
  go_wp2_with fail
  refine (Clone_c _ _ _ _ d hd).mono ?_
  rintro e w1 ⟨a1, c1, rfl, hr1, hf1, hb1⟩
  have HB1 : Below w.heap.size w w1 := Below.trans (by go_grown) (hb1.mono (by go_size))
  go_wp2_with fail
  refine (cut_c _ _ _ _ _ d hr1 HL.out).mono ?_
  rintro e w2 ⟨g2, n2, rfl, hn2, hnum2, hb2⟩
  have HB2 : Below w.heap.size w w2 := Below.trans HB1 (hb2.mono HB1.size)
  go_wp2_with fail
  refine (wide_c _ _ _ _ d' k (hd'.keep HB2) HL'.out hk hn').mono ?_
  rintro e w3 ⟨a3, rfl, hr3, hN, hf3, hb3⟩
  have HB3 : Below w.heap.size w w3 := Below.trans HB2 (hb3.mono HB2.size)
  have HN := Lib.hid (val_fx _ _ hN)
  clear hN
  go_wp2_with fail
  refine (cut_c _ _ _ _ _ _ hr3 (fx_lt _ _)).mono ?_
  rintro e w4 ⟨g4, n4, rfl, hn4, hnum4, hb4⟩
  have HB4 : Below w.heap.size w w4 := Below.trans HB3 (hb4.mono HB3.size)
  have hr2 := (hnum2.rd.keep hb3).keep hb4
  rw [sgn_abs] at hr2
  have hr4 := hnum4.rd
  rw [sgn_abs, HN.out] at hr4
  clear hnum2 hnum4
  go_wp2_with fail
  refine (amounts_c _ _ _ _ _ _ _ _ _ hr2 hr4 (canon_dg _) (canon_dg _)).mono ?_
  rintro e w5 ⟨rfl, hb5⟩
  have HB5 : Below w.heap.size w w5 := Below.trans HB4 (hb5.mono HB4.size)
  rw [val_dg, val_dg]
  have hr : ∀ x y : Nat, decide (cmpI (x : Int) (y : Int) < 0) = decide (x < y) := by
    intro x y
    unfold cmpI
    rcases Nat.lt_trichotomy x y with h | h | h
    · rw [if_pos (by omega)]; simp [h]
    · rw [h, if_neg (by omega), if_pos rfl]; simp
    · rw [if_neg (by omega), if_neg (by omega)]; simp; omega
  replace hr := hr (val d) (val d' * k)
  rw [Int.natCast_mul] at hr
  have HR := Lib.hid hr
  clear hr
  go_wp2_with fail
  go_ret
  exact ⟨congrArg (fun b => Ending.returned (.bool b)) HR.out, HB5⟩
end Go.Proofs.YtdamegaedmckbaaGreatDoor
end
section
namespace Go.Proofs.YtdamegaedmckbaaGreatDoor
open Go.RowKit
theorem run_front (W : World) (g o n c k : Nat) (hk : k ≤ c) : (Instr.sliceAt 57 (.slice (some ⟨g, o, none⟩) n c) none (some (.int .i64 (k : Int))) none).run Tryz.prog W = .ok (.slice (some ⟨g, o, none⟩) k c) W := by
  have h0 : (0 : Int) ≤ (k : Int) := by omega
  simp [Instr.sliceAt, Instr.slice, Instr.sliceBounds, Instr.sliceBound, go_sem, h0, hk]
theorem run_mid (W : World) (g o n c i k : Nat) (hi : i ≤ k) (hk : k ≤ c) (hc : i < c) : (Instr.sliceAt 57 (.slice (some ⟨g, o, none⟩) n c) (some (.int .i64 (i : Int))) (some (.int .i64 (k : Int))) none).run Tryz.prog W = .ok (.slice (some ⟨g, o + i, none⟩) (k - i) (c - i)) W := by
  have h0 : (0 : Int) ≤ (k : Int) := by omega
  have h3 : (0 : Int) ≤ (i : Int) := by omega
  have h4 : c ≠ i := by omega
  simp [Instr.sliceAt, Instr.slice, Instr.sliceBounds, Instr.sliceBound, go_sem, h0, h3, h4, hk, hi]
theorem RdL.front {w : World} {a : Option Addr} {n c : Nat} {d : List Nat} (h : RdL w a n c d) {k : Nat} (hk : k ≤ n) : RdL w a k c (d.take k) := by
  have hl := h.len
  refine ⟨by rw [List.length_take]; omega, Nat.le_trans hk h.cap, Nat.le_trans hk h.few, h.top, fun i => ?_, ?_⟩
  · rcases Nat.lt_or_ge i k with h1 | h1
    · have : lim (d.take k) i = lim d i := by simp [lim, List.getD, List.getElem?_take, h1]
      rw [this]; exact h.small i
    · have : lim (d.take k) i = 0 := by simp [lim, List.getD, List.getElem?_take, Nat.not_lt.2 h1]
      rw [this]; omega
  · rcases h.cell with h0 | ⟨b, o, ha, hc⟩
    · exact .inl (by omega)
    · refine .inr ⟨b, o, ha, fun i hi => ?_⟩
      have : lim (d.take k) i = lim d i := by simp [lim, List.getD, List.getElem?_take, hi]
      rw [this]
      exact hc i (by omega)
theorem RdL.mid {w : World} {b o n c : Nat} {d : List Nat} (h : RdL w (some ⟨b, o, none⟩) n c d) {i k : Nat} (hk : i + k ≤ n) : RdL w (some ⟨b, o + i, none⟩) k (c - i) ((d.drop i).take k) := by
  have hl := h.len
  have hcp := h.cap
  have hfw := h.few
  have htp := h.top
  have e : ∀ j, j < k → lim ((d.drop i).take k) j = lim d (i + j) := fun j hj => by simp [lim, List.getD, List.getElem?_take, hj, List.getElem?_drop]
  refine ⟨by rw [List.length_take, List.length_drop]; omega, by omega, by omega, by omega, fun j => ?_, .inr ⟨b, o + i, rfl, fun j hj => ?_⟩⟩
  · rcases Nat.lt_or_ge j k with h1 | h1
    · rw [e j h1]; exact h.small _
    · have : lim ((d.drop i).take k) j = 0 := by simp [lim, List.getD, List.getElem?_take, Nat.not_lt.2 h1]
      rw [this]; omega
  · rw [e j hj, Nat.add_assoc]
    exact h.at (by omega)
theorem mid_lt {d : List Nat} (h : ∀ x ∈ d, x < 1000000000) (i k : Nat) : ∀ x ∈ (d.drop i).take k, x < 1000000000 := fun x hx => h x (List.mem_of_mem_drop (List.mem_of_mem_take hx))
end Go.Proofs.YtdamegaedmckbaaGreatDoor
end
section
namespace Go.Proofs.YtdamegaedmckbaaGreatDoor
open Go.RowKit

/-- The worlds that keep all that lay in w. -/
def GrowW (w : World) : Type := { W : World // Below w.heap.size w W }
instance (w : World) : Nonempty (GrowW w) := ⟨⟨w, Below.refl _ w⟩⟩
theorem growL {P : Program} {f : FuncId} {args : Array Value} {w : World} {n : GrowW w} {v : Value}
    (h : Calls P f args n.1 fun e w' => e = .returned v ∧ Below n.1.heap.size n.1 w') : Calls P f args n.1 fun e w'' => e = .returned v ∧ ∃ m : GrowW w, w'' = m.1 :=
  h.mono fun _ w' ⟨he, hb⟩ => ⟨he, ⟨w', n.2.trans (hb.mono n.2.size)⟩, rfl⟩
theorem growC {w : World} {p : Addr} {v : Value} (h : w.cell? p = some v) : ∀ n : GrowW w, n.1.cell? p = some v := fun n => cell_keep n.2 h
theorem wp_region_grow {P : Program} {id : Nat} {Q : Exit → Act → World → Prop} {a : Act} {w : World} {l : List Oper} (hm : P.follows .mixedOrders = true) (hB : Region.lexB .any l.toArray = true)
    (h : wpQuiet P l.toArray (fun w' => ∃ n : GrowW w, w' = n.1) (fun a' => ∀ w', (∃ n : GrowW w, w' = n.1) → Q .normal a' w') l a) : (Code.region id l.toArray true).wp P Q a w :=
  wp_region_quiet (C := fun w' => ∃ n : GrowW w, w' = n.1) hm hB ⟨⟨w.drew, (Below.refl _ w).drew⟩, rfl⟩ (by simpa using h)
end Go.Proofs.YtdamegaedmckbaaGreatDoor
end
section
namespace Go.Proofs.YtdamegaedmckbaaGreatDoor

/-- A quotient is no greater than that of the uppermost parts. -/
theorem guess_top {g V h two v1 X r s : Nat} (hg : g * V ≤ h) (hV : V = s + X * v1) (hh : h = r + X * two) (hr : r < X) (hv : 0 < v1) : g ≤ two / v1 := by
  rw [Nat.le_div_iff_mul_le hv]
  refine Nat.le_of_lt_succ (Nat.lt_of_not_le fun hc => ?_)
  have h1 : X * (two + 1) ≤ X * (g * v1) := Nat.mul_le_mul_left X hc
  have h2 : X * (g * v1) ≤ g * V := by
    rw [hV, Nat.mul_add, Nat.mul_left_comm X g v1]
    exact Nat.le_add_left _ _
  rw [Nat.mul_add, Nat.mul_one] at h1
  omega
/-- Where the next part shows a guess to be too great, it is. -/
theorem guess_next {g V h two v1 v2 h3 over X r s guess : Nat} (hg : g * V ≤ h) (hV : V = s + X * (v2 + 1000000000 * v1)) (hh : h = r + X * (h3 + 1000000000 * two)) (hr : r < X)
    (ho : two = over + guess * v1) (hc : over * 1000000000 + h3 < guess * v2) (hle : g ≤ guess) : g ≤ guess - 1 := by
  rcases Nat.lt_or_ge g guess with h1 | h1
  · omega
  · exfalso
    obtain rfl : g = guess := by omega
    have h2 : X * (g * (v2 + 1000000000 * v1)) ≤ g * V := by
      rw [hV, Nat.mul_add g s, Nat.mul_left_comm X g]
      exact Nat.le_add_left _ _
    have h3' : X * (g * (v2 + 1000000000 * v1)) < X * (h3 + 1000000000 * two + 1) := by
      rw [Nat.mul_add X _ 1, Nat.mul_one]
      omega
    have h4 := Nat.lt_of_mul_lt_mul_left h3'
    rw [ho, Nat.mul_add g, Nat.mul_left_comm g 1000000000 v1, Nat.mul_add 1000000000] at h4
    rw [Nat.mul_comm over] at hc
    omega
/-- The long division: k parts of the quotient are still to be found; n: the parts of V, m: those of the quotient. -/
structure DivSt (U0 V n m k : Nat) (u q : List Nat) : Prop where
  ulen : u.length = m + n
  ult : ∀ x ∈ u, x < 1000000000
  qlen : q.length = m
  qlt : ∀ x ∈ q, x < 1000000000
  km : k ≤ m
  qz : ∀ j, j < k → q.getD j 0 = 0
  top : val (u.drop k) < V
  eq : val u + 1000000000 ^ k * (V * val (q.drop k)) = U0
theorem DivSt.start {V n m : Nat} {u : List Nat} (hl : u.length = m + n) (hlt : ∀ x ∈ u, x < 1000000000) (ht : val (u.drop m) < V) : DivSt (val u) V n m m u (List.replicate m 0) where
  ulen := hl
  ult := hlt
  qlen := by simp
  qlt _ hx := by rw [(List.mem_replicate.1 hx).2]; omega
  km := Nat.le_refl _
  qz j hj := by simp only [List.getD, List.getElem?_replicate]; split <;> rfl
  top := ht
  eq := by rw [List.drop_of_length_le (by simp), show val [] = 0 from rfl, Nat.mul_zero, Nat.mul_zero, Nat.add_zero]
theorem drop_zero_of_lt {l : List Nat} {n V : Nat} (h : val l < V) (hV : V ≤ 1000000000 ^ n) (hn : n ≤ l.length) : val (l.drop n) = 0 := by
  have h1 := val_split l n hn
  rcases Nat.eq_zero_or_pos (val (l.drop n)) with h2 | h2
  · exact h2
  · exfalso
    have h3 : 1000000000 ^ n * 1 ≤ 1000000000 ^ n * val (l.drop n) := Nat.mul_le_mul_left _ h2
    rw [Nat.mul_one] at h3
    omega
theorem DivSt.rest {U0 V n m i : Nat} {u q : List Nat} (h : DivSt U0 V n m (i + 1) u q) (hV : V ≤ 1000000000 ^ n) : val (u.drop (i + (n + 1))) = 0 := by
  have h1 := h.km
  have h2 := h.ulen
  have := drop_zero_of_lt h.top hV (by rw [List.length_drop]; omega)
  rw [List.drop_drop] at this
  rw [show i + (n + 1) = i + 1 + n by omega]
  exact this
/-- The head: the parts from i on, as far as they are no noughts. -/
theorem DivSt.head {U0 V n m i : Nat} {u q : List Nat} (h : DivSt U0 V n m (i + 1) u q) (hV : V ≤ 1000000000 ^ n) : val ((u.drop i).take (n + 1)) = val (u.drop i) := by
  have h1 := h.km
  have h2 := h.ulen
  have h3 := val_split (u.drop i) (n + 1) (by rw [List.length_drop]; omega)
  rw [List.drop_drop, h.rest hV, Nat.mul_zero, Nat.add_zero] at h3
  exact h3.symm
theorem DivSt.head_lt {U0 V n m i : Nat} {u q : List Nat} (h : DivSt U0 V n m (i + 1) u q) : val (u.drop i) < 1000000000 * V := by
  have h1 := h.km
  have h2 := h.ulen
  have h3 := drop_val u i (by omega)
  have h4 := getD_lt h.ult i
  have h5 := h.top
  have h6 : 1000000000 * (val (u.drop (i + 1)) + 1) ≤ 1000000000 * V := Nat.mul_le_mul_left _ h5
  rw [Nat.mul_add] at h6
  omega
theorem DivSt.step {U0 V n m i : Nat} {u q less : List Nat} (h : DivSt U0 V n m (i + 1) u q) (hV : V ≤ 1000000000 ^ n) (hV0 : 0 < V) (g : Nat) (hg : g = val (u.drop i) / V)
    (hl : less.length = n + 1) (hlt : ∀ x ∈ less, x < 1000000000) (hv : val less = val (u.drop i) - g * V) :
    DivSt U0 V n m i (u.take i ++ (less ++ u.drop (i + less.length))) (q.set i g) := by
  have hkm := h.km
  have hul := h.ulen
  have hql := h.qlen
  have hr := h.rest hV
  have hg1 : g < 1000000000 := by rw [hg]; exact (Nat.div_lt_iff_lt_mul hV0).2 h.head_lt
  have hmd : val (u.drop i) - g * V = val (u.drop i) % V := by
    have := Nat.div_add_mod (val (u.drop i)) V
    rw [← hg, Nat.mul_comm] at this
    omega
  have hdm : val (u.drop i) = val less + g * V := by
    have := Nat.div_add_mod (val (u.drop i)) V
    rw [← hg, Nat.mul_comm V g] at this
    omega
  have htk : (u.take i).length = i := by rw [List.length_take]; omega
  have hvl : val (less ++ u.drop (i + less.length)) = val less := by
    rw [val_append, hl, hr, Nat.mul_zero, Nat.add_zero]
  refine ⟨?_, ?_, ?_, mem_set_lt h.qlt hg1, by omega, ?_, ?_, ?_⟩
  · rw [List.length_append, List.length_append, htk, List.length_drop]; omega
  · intro x hx
    rcases List.mem_append.1 hx with hx | hx
    · exact h.ult x (List.mem_of_mem_take hx)
    · rcases List.mem_append.1 hx with hx | hx
      · exact hlt x hx
      · exact h.ult x (List.mem_of_mem_drop hx)
  · rw [List.length_set]; exact hql
  · intro j hj
    rw [getD_set_other (by omega)]
    exact h.qz j (by omega)
  · rw [List.drop_left' htk, hvl, hv, hmd]
    exact Nat.mod_lt _ hV0
  · have e1 : val (u.take i ++ (less ++ u.drop (i + less.length))) = val (u.take i) + 1000000000 ^ i * val less := by rw [val_append, htk, hvl]
    have e2 : val u = val (u.take i) + 1000000000 ^ i * (val less + g * V) := by rw [← hdm]; exact val_split u i (by omega)
    have e3 : val ((q.set i g).drop i) = g + 1000000000 * val (q.drop (i + 1)) := by
      rw [drop_val (q.set i g) i (by rw [List.length_set]; omega), List.drop_set_of_lt (by omega)]
      congr 1
      simp [List.getD, show i < q.length by omega]
    have e4 := h.eq
    rw [e1, e3, ← e4, e2, Nat.mul_add V, Nat.mul_add (1000000000 ^ i), Nat.mul_add (1000000000 ^ i), Nat.pow_succ, Nat.mul_comm V g]
    rw [Nat.mul_left_comm V 1000000000, Nat.mul_assoc (1000000000 ^ i) 1000000000]
    omega
theorem DivSt.done {U0 V n m : Nat} {u q : List Nat} (h : DivSt U0 V n m 0 u q) (hV0 : 0 < V) : val q = U0 / V ∧ val u = U0 % V := by
  have h1 := h.eq
  have h2 := h.top
  rw [List.drop_zero] at h1 h2
  rw [Nat.pow_zero, Nat.one_mul] at h1
  have h3 := (Nat.div_mod_unique hV0).2 ⟨h1, h2⟩
  exact ⟨h3.1.symm, h3.2.symm⟩
theorem val_take_of_lt {l : List Nat} {n V : Nat} (h : val l < V) (hV : V ≤ 1000000000 ^ n) (hn : n ≤ l.length) : val (l.take n) = val l := by
  have h1 := val_split l n hn
  rw [drop_zero_of_lt h hV hn, Nat.mul_zero, Nat.add_zero] at h1
  exact h1.symm
end Go.Proofs.YtdamegaedmckbaaGreatDoor
end
section
namespace Go.Proofs.YtdamegaedmckbaaGreatDoor

theorem DivSt.skip {U0 V n m i : Nat} {u q : List Nat} (h : DivSt U0 V n m (i + 1) u q) (hg : val (u.drop i) < V) : DivSt U0 V n m i u q where
  ulen := h.ulen
  ult := h.ult
  qlen := h.qlen
  qlt := h.qlt
  km := by have := h.km; omega
  qz j hj := h.qz j (by omega)
  top := hg
  eq := by
    have h1 := h.km
    have h2 := h.qlen
    have h3 := drop_val q i (by omega)
    rw [h.qz i (by omega), Nat.zero_add] at h3
    have h4 := h.eq
    rw [h3, ← h4, Nat.pow_succ, Nat.mul_left_comm V, Nat.mul_assoc]
theorem drop_single {l : List Nat} {k : Nat} (h : l.length = k + 1) : l.drop k = [l.getD k 0] := by
  rw [List.drop_eq_getElem_cons (by omega), List.drop_of_length_le (by omega)]
  simp [List.getD, show k < l.length by omega]
theorem val_top1 {l : List Nat} {k : Nat} (h : l.length = k + 1) : val l = val (l.take k) + 1000000000 ^ k * l.getD k 0 := by
  have h1 := val_split l k (by omega)
  rw [drop_single h] at h1
  simpa [val] using h1
theorem val_top2 {l : List Nat} {k : Nat} (h : l.length = k + 2) : val l = val (l.take k) + 1000000000 ^ k * (l.getD k 0 + 1000000000 * l.getD (k + 1) 0) := by
  have h1 := val_split l k (by omega)
  rw [drop_val l k (by omega), drop_single (k := k + 1) (by omega)] at h1
  simpa [val] using h1
theorem val_top3 {l : List Nat} {k : Nat} (h : l.length = k + 3) : val l = val (l.take k) + 1000000000 ^ k * (l.getD k 0 + 1000000000 * (l.getD (k + 1) 0 + 1000000000 * l.getD (k + 2) 0)) := by
  have h1 := val_split l k (by omega)
  rw [drop_val l k (by omega), drop_val l (k + 1) (by omega), drop_single (k := k + 2) (by omega)] at h1
  simpa [val] using h1
theorem val_take_lt' {l : List Nat} (h : ∀ x ∈ l, x < 1000000000) (k : Nat) (hk : k ≤ l.length) : val (l.take k) < 1000000000 ^ k := by
  have h1 := val_lt (l.take k) (fun x hx => h x (List.mem_of_mem_take hx))
  rw [List.length_take, Nat.min_eq_left hk] at h1
  exact h1
theorem top_pos {d : List Nat} {m : Nat} (h : Canon d) (hl : d.length = m) (hm : 1 ≤ m) : 0 < d.getD (m - 1) 0 := by
  have h4 := h.2.resolve_left (fun e => by rw [e] at hl; simp at hl; omega)
  rcases Nat.eq_zero_or_pos (d.getD (m - 1) 0) with h5 | h5
  · exfalso
    apply h4
    rw [List.getLast?_eq_getElem?, hl]
    have h6 : m - 1 < d.length := by omega
    rw [List.getElem?_eq_getElem h6]
    simp only [List.getD, List.getElem?_eq_getElem h6, Option.getD_some] at h5
    rw [h5]
  · exact h5
/-- What the scaling does: both numbers times s. -/
structure Scaled (d d' : List Nat) (n n' s : Nat) : Prop where
  vlt : val d' * s < 1000000000 ^ n'
  vpos : 0 < val d' * s
  ult : val d * s < 1000000000 ^ (n + 1)
  top : ∀ u : List Nat, u.length = n + 1 → val u = val d * s → val (u.drop (n + 1 - n')) < val d' * s
  v1 : ∀ v : List Nat, v.length = n' → (∀ x ∈ v, x < 1000000000) → val v = val d' * s → 0 < v.getD (n' - 1) 0
theorem scaled_mk {d d' : List Nat} {n n' s t : Nat} (hd : ∀ x ∈ d, x < 1000000000) (hd' : ∀ x ∈ d', x < 1000000000) (hl : d.length = n) (hl' : d'.length = n') (h2 : 2 ≤ n') (hle : n' ≤ n)
    (ht : t = d'.getD (n' - 1) 0) (ht0 : 0 < t) (hs : s = 1000000000 / (t + 1)) (hs0 : 0 < s) (hs2 : s < 1000000000) : Scaled d d' n n' s := by
  have hst : s * (t + 1) ≤ 1000000000 := by rw [hs]; exact Nat.div_mul_le_self _ _
  have hv := val_top1 (l := d') (k := n' - 1) (by omega)
  rw [← ht] at hv
  have hr := val_take_lt' hd' (n' - 1) (by omega)
  generalize val (d'.take (n' - 1)) = r at hv hr
  obtain ⟨X, hX⟩ : ∃ X, X = 1000000000 ^ (n' - 1) := ⟨_, rfl⟩
  rw [← hX] at hv hr
  have hXn : 1000000000 ^ n' = X * 1000000000 := by rw [hX, ← Nat.pow_succ]; congr 1; omega
  have hlow : X ≤ val d' := by
    rw [hv]
    have : X * 1 ≤ X * t := Nat.mul_le_mul_left _ ht0
    omega
  have hX0 : 0 < X := by rw [hX]; exact Nat.pow_pos (by omega)
  have hV0 : 0 < val d' * s := Nat.mul_pos (by omega) hs0
  have hVX : X * s ≤ val d' * s := Nat.mul_le_mul_right _ hlow
  refine ⟨?_, hV0, ?_, ?_, ?_⟩
  · have h1 : val d' < X * (t + 1) := by rw [hv, Nat.mul_add]; omega
    have h3 : val d' * s < X * (t + 1) * s := Nat.mul_lt_mul_of_pos_right h1 hs0
    have h4 : X * (t + 1) * s ≤ X * 1000000000 := by rw [Nat.mul_assoc, Nat.mul_comm (t + 1)]; exact Nat.mul_le_mul_left _ hst
    rw [hXn]
    omega
  · have h1 := val_lt d hd
    rw [hl] at h1
    rw [Nat.pow_succ]
    exact Nat.mul_lt_mul'' h1 hs2
  · intro u hu hval
    have h1 := val_split u (n + 1 - n') (by omega)
    have h3 := val_lt d hd
    rw [hl] at h3
    have h4 : val u < 1000000000 ^ n * s := by rw [hval]; exact Nat.mul_lt_mul_of_pos_right h3 hs0
    have h5 : 1000000000 ^ n = 1000000000 ^ (n + 1 - n') * X := by rw [hX, ← Nat.pow_add]; congr 1; omega
    rw [h5, Nat.mul_assoc] at h4
    have h6 : 1000000000 ^ (n + 1 - n') * val (u.drop (n + 1 - n')) < 1000000000 ^ (n + 1 - n') * (X * s) := by omega
    have := Nat.lt_of_mul_lt_mul_left h6
    omega
  · intro v hvl hvlt hval
    have h1 := val_top1 (l := v) (k := n' - 1) (by omega)
    have h3 := val_take_lt' hvlt (n' - 1) (by omega)
    rw [← hX] at h1 h3
    rcases Nat.eq_zero_or_pos (v.getD (n' - 1) 0) with h4 | h4
    · rw [h4, Nat.mul_zero, Nat.add_zero] at h1
      have : X * 1 ≤ X * s := Nat.mul_le_mul_left _ hs0
      omega
    · exact h4
/-- One round's words: g the part of the quotient, head the n + 1 parts. -/
structure Guess (v head : List Nat) (V g k : Nat) (two over guess : Nat) : Prop where
  le : g ≤ guess
  small : guess ≤ 999999999
  two : two = over + guess * v.getD (k + 1) 0
theorem guess_start {v head : List Nat} {V g k two : Nat} (hv : v.length = k + 2) (hh : head.length = k + 3) (hvlt : ∀ x ∈ v, x < 1000000000) (hhlt : ∀ x ∈ head, x < 1000000000) (hV : val v = V) (hV0 : 0 < v.getD (k + 1) 0)
    (hg : g = val head / V) (hgs : g < 1000000000) (h2 : two = head.getD (k + 2) 0 * 1000000000 + head.getD (k + 1) 0) :
    Guess v head V g k two (two - min (two / v.getD (k + 1) 0) 999999999 * v.getD (k + 1) 0) (min (two / v.getD (k + 1) 0) 999999999) := by
  have h1 := val_top1 (l := v) (k := k + 1) hv
  have h3 := val_top2 (l := head) (k := k + 1) hh
  have hr := val_take_lt' hhlt (k + 1) (by omega)
  have hle : g * V ≤ val head := by rw [hg]; exact Nat.div_mul_le_self _ _
  have hq := guess_top (g := g) (V := V) (h := val head) (two := two) (v1 := v.getD (k + 1) 0) (X := 1000000000 ^ (k + 1)) (r := val (head.take (k + 1))) (s := val (v.take (k + 1))) hle (by rw [← hV, h1])
    (by rw [h3, h2, Nat.mul_comm (head.getD (k + 2) 0), Nat.add_comm (1000000000 * _)]) hr hV0
  refine ⟨by omega, by omega, ?_⟩
  have : min (two / v.getD (k + 1) 0) 999999999 * v.getD (k + 1) 0 ≤ two := Nat.le_trans (Nat.mul_le_mul_right _ (Nat.min_le_left _ _)) (Nat.div_mul_le_self _ _)
  omega
theorem guess_round {v head : List Nat} {V g k two over guess : Nat} (h : Guess v head V g k two over guess) (hv : v.length = k + 2) (hh : head.length = k + 3) (hhlt : ∀ x ∈ head, x < 1000000000) (hV : val v = V)
    (hg : g = val head / V) (h2 : two = head.getD (k + 2) 0 * 1000000000 + head.getD (k + 1) 0) (hc : over * 1000000000 + head.getD k 0 < guess * v.getD k 0) :
    1 ≤ guess ∧ Guess v head V g k two (over + v.getD (k + 1) 0) (guess - 1) := by
  have h1 := val_top2 (l := v) (k := k) hv
  have h3 := val_top3 (l := head) (k := k) hh
  have hr := val_take_lt' hhlt k (by omega)
  have hle : g * V ≤ val head := by rw [hg]; exact Nat.div_mul_le_self _ _
  have h0 : 1 ≤ guess := by
    rcases Nat.eq_zero_or_pos guess with h0 | h0
    · rw [h0, Nat.zero_mul] at hc; omega
    · exact h0
  refine ⟨h0, ?_, by have := h.small; omega, ?_⟩
  · exact guess_next (V := V) (h := val head) (v1 := v.getD (k + 1) 0) (v2 := v.getD k 0) (h3 := head.getD k 0) (X := 1000000000 ^ k) (r := val (head.take k)) (s := val (v.take k)) hle (by rw [← hV, h1])
      (by rw [h3, h2, Nat.mul_comm (head.getD (k + 2) 0), Nat.add_comm (1000000000 * _) (head.getD (k + 1) 0)]) hr h.two hc h.le
  · have := h.two
    obtain ⟨x, rfl⟩ : ∃ x, guess = x + 1 := ⟨guess - 1, by omega⟩
    rw [Nat.add_sub_cancel]
    rw [Nat.add_mul, Nat.one_mul] at this
    omega
theorem scaled_end {x y s : Nat} (hs : 0 < s) : (x * s) / (y * s) = x / y ∧ ((x * s) % (y * s)) / s = x % y := by
  refine ⟨Nat.mul_div_mul_right _ _ hs, ?_⟩
  rw [Nat.mul_mod_mul_right, Nat.mul_div_cancel _ hs]
theorem fx_take (m N : Nat) : (fx (m + 1) N).take m = fx m N := by
  rw [fx_snoc, List.take_left' (fx_length m N)]
end Go.Proofs.YtdamegaedmckbaaGreatDoor
end
