/- The document's reader: power (function 196). No further condition. The reader's term under way: what lies in memory. No condition. A sum that is put together term by term, each term in memory of its own. No condition. Package spells: words. -/
import Derived.Test.YtdamegaedmckbaaGreatDoorQT31
import Derived.Test.YtdamegaedmckbaaGreatDoorQT24
import Derived.Test.YtdamegaedmckbaaGreatDoorQT29
import Derived.Test.YtdamegaedmckbaaGreatDoorQT23
import Derived.Maps.AppendAt
import Derived.Deep.AppendLies
import Derived.Test.YtdamegaedmckbaaGreatDoorQTZ
set_option linter.unusedSimpArgs false
set_option linter.unusedVariables false
set_option maxRecDepth 100000
set_option maxHeartbeats 4000000
section
namespace Go.Proofs.YtdamegaedmckbaaGreatDoor
open Go.RowKit
def rdTop (L : List UInt8) (many : Bool) : Option (Nat × List UInt8 × Bool) :=
 match rdPos L many with
 | none => none
 | some (d, r, m) => if 1000 < numN d then some (0, r, true) else some (numN d, r, m)
def DocRes {α : Type} (L : List UInt8) (x : Option (α × List UInt8 × Bool)) (good : α → Prop) (k' : Nat) (e' : Int) (m' : Bool) : Prop :=
 match x with
 | none => e' = 4
 | some (v, r, m) => e' = 0 ∧ L.drop k' = r ∧ m' = m ∧ good v
def DPowPost (w : World) (R : Nat) (L : List UInt8) (k : Nat) (m0 : Bool) (e : Ending) (w' : World) : Prop :=
 ∃ (n k' : Nat) (e' : Int) (m' : Bool), e = .returned (.int .i64 (n : Nat)) ∧ n ≤ 1000 ∧ k ≤ k' ∧ w.grownBy w' (some R) ∧ DocAt w' R L k' e' m' ∧ DocRes L (rdTop (L.drop k) m0) (fun v => n = v) k' e' m'
theorem digAt_num (L : List UInt8) (k : Nat) (m : Bool) : rdNum (L.drop k) m = if digitsB (digAt L k) then some (digAt L k, L.drop (k + (digAt L k).length), m || decide (200 < (digAt L k).length)) else none := by
 unfold rdNum digAt
 have e := List.takeWhile_append_dropWhile (p := isDig) (l := L.drop k)
 have h1 := List.drop_left (l₁ := (L.drop k).takeWhile isDig) (l₂ := (L.drop k).dropWhile isDig)
 rw [e, List.drop_drop] at h1
 rw [← h1]
theorem digAt_all (L : List UInt8) (k : Nat) : (digAt L k).all isDig = true := List.all_takeWhile
theorem numN_six {d : List UInt8} (h : d.all isDig = true) {i : Nat} (hi : i ≤ 6) : numN (d.take i) < 1000000 := by
 have h0 : (d.take i).all isDig = true := by
  rw [List.all_eq_true] at h ⊢
  exact fun x hx => h x (List.mem_of_mem_take hx)
 have h1 := numN_lt h0
 have h2 : 10 ^ (d.take i).length ≤ 10 ^ 6 := Nat.pow_le_pow_right qB (by rw [List.length_take]; omega)
 omega
theorem numN_take_succ {d : List UInt8} {i : Nat} (h : i < d.length) : numN (d.take (i + 1)) = 10 * numN (d.take i) + (d[i].toNat - 48) := by
 rw [List.take_succ_eq_append_getElem h, numN_snoc]
theorem numN_long {d : List UInt8} (h : digitsB d = true) (hl : 6 < d.length) : 1000 < numN d := by
 cases d with
 | nil => cases h
 | cons b r =>
  simp only [digitsB, Bool.and_eq_true, Bool.or_eq_true, decide_eq_true_eq, List.all_cons] at h
  have hr : ¬ (b.toNat : Int) = 48 := by
   rcases h.2 with h2 | h2
   ·simp at hl; simp at h2; subst h2; simp at hl
   ·exact h2
  have hb := h.1.1
  unfold isDig at hb
  rw [decide_eq_true_eq] at hb
  have e : numN (b :: r) = (b.toNat - 48) * 10 ^ r.length + numN r := by
   have := numN_from r (10 * 0 + (b.toNat - 48))
   simp only [Nat.mul_zero, Nat.zero_add] at this
   rw [← this]; simp [numN]
  simp only [List.length_cons] at hl
  have h6 : 10 ^ 6 ≤ 10 ^ r.length := Nat.pow_le_pow_right qB qB
  have h7 : 1 * 10 ^ r.length ≤ (b.toNat - 48) * 10 ^ r.length := Nat.mul_le_mul_right _ qB
  omega
theorem top_of (L : List UInt8) (k : Nat) (m : Bool) : rdTop (L.drop k) m = if digitsB (digAt L k) then (if digAt L k = [48] then none else
  if 1000 < numN ((digAt L k).take 6) ∨ 6 < (digAt L k).length then some (0, L.drop (k + (digAt L k).length), true) else some (numN ((digAt L k).take 6), L.drop (k + (digAt L k).length), m || decide (200 < (digAt L k).length))) else none := by
 unfold rdTop rdPos
 rw [digAt_num]
 generalize digAt L k = D
 by_cases h : digitsB D = true
 ·rw [if_pos h, if_pos h]
  by_cases h48 : D = [48]
  ·simp [h48]
  ·simp only [if_neg h48]
   by_cases h6 : 6 < D.length
   ·rw [if_pos (numN_long h h6), if_pos (Or.inr h6)]
   ·rw [List.take_of_length_le qB]
    by_cases h1 : 1000 < numN D
    ·rw [if_pos h1, if_pos (Or.inl h1)]
    ·rw [if_neg h1, if_neg qB]
 ·rw [if_neg h, if_neg h]
theorem docPower_c (wo : World) (R : Nat) (L : List UInt8) (k : Nat) (m0 : Bool) (h : DocAt wo R L k 0 m0) (hL : L.length < 1000000000) :
  Calls Tryz.prog 196 #[.pointer (some ⟨R, 0, none⟩)] wo (DPowPost wo R L k m0) := by
 have HT := Lib.hid (top_of L k m0)
 have HA := Lib.hid (digAt_all L k)
 go_enter Tryz.func196, Tryz.ntmps196
 go_wp2_with fail
 refine (docDigits_c wo R L k 0 m0 h hL).mono ?_
 rintro e w1 ⟨rfl, hg, hD⟩
 have hdl : (digAt L k).length < 1000000000 := by have := hD.le; omega
 generalize digAt L k = D at *
 obtain ⟨e1, he1⟩ : ∃ e1 : Int, e1 = if digitsB D then 0 else 4 := ⟨_, rfl⟩
 obtain ⟨m1, hm1⟩ : ∃ m1 : Bool, m1 = (m0 || decide (200 < D.length)) := ⟨_, rfl⟩
 obtain ⟨k1, hk1⟩ : ∃ k1 : Nat, k1 = k + D.length := ⟨_, rfl⟩
 rw [← he1, ← hm1, ← hk1] at hD
 rw [← hm1, ← hk1] at HT
 have HE := Lib.hid he1
 have HK := Lib.hid (show k ≤ k1 by omega)
 clear he1 hm1 hk1 h
 have y2 := hD.c2
 have z2 := hD.f2
 by_cases h48 : D = [48]
 ·have hq1 : (D == [48]) = true := by simp [h48]
  have HX := Lib.hid (show rdTop (L.drop k) m0 = none by rw [HT.out, h48]; rfl)
  have HG : Hid (DocAt (w1.setCell ⟨R, 2, none⟩ (.int .i64 4)) R L k1 4 m1 ∧ wo.grownBy (w1.setCell ⟨R, 2, none⟩ (.int .i64 4)) (some R)) := Lib.hid ⟨hD.set2 4, grown_set _ hg⟩
  have HW : Hid (((1000 < numN (D.take 6) ∨ 6 < D.length) → DocRes L (rdTop (L.drop k) m0) (fun u => 0 = u) k1 4 true) ∧ (¬ (1000 < numN (D.take 6) ∨ 6 < D.length) → DocRes L (rdTop (L.drop k) m0) (fun u => numN (D.take 6) = u) k1 4 m1)) := Lib.hid (by rw [HX.out]; exact ⟨fun _ => rfl, fun _ => rfl⟩)
  clear h48 HT HX HE
  go_wp2_with fail
  clear hD hg y2 z2 hq1
  generalize w1.setCell ⟨R, 2, none⟩ (.int .i64 4) = w2 at *
  obtain ⟨HD2, HG2⟩ := HG.out
  have HB2 := Below.refl w2.heap.size w2
  go_loopw [4, 5] (fun v4 v5 wr => ∃ i : Nat, i ≤ D.length ∧ i ≤ 6 ∧ v4 = .int .i64 (numN (D.take i) : Nat) ∧ v5 = .int .i64 i ∧ Below w2.heap.size w2 wr) (fun _ v5 _ => 6 - (intOf v5).toNat)
  case atStart => exact ⟨0, by omega, by omega, by simp [numN], rfl, HB2⟩
  case round =>
   obtain ⟨i, hi1, hi2, rfl, rfl, HBr⟩ := hrel
   have hx6 := numN_six HA.out hi2
   by_cases hgo : i < D.length ∧ i < 6
   ·exact qBk
   ·have h6 : D.take i = D.take 6 := by
     by_cases h : i < 6
     ·rw [List.take_of_length_le qB, List.take_of_length_le qB]
     ·rw [show i = 6 by omega]
    rw [h6] at hx6 ⊢
    have HX := HD2.keep HBr
    have HGx := HG2.trans (grown_below HBr (some R))
    have x3 := HX.c3
    have x4 := HX.f3
    generalize numN (D.take 6) = x at *
    clear h6
    by_cases hi : i < D.length
    ·obtain rfl : i = 6 := by omega
     clear hgo
     have hl : (6 : Int) < (D.length : Int) := by omega
     have HZ := Lib.hid (HW.out.1 (Or.inr qB))
     by_cases hn : (1000 : Int) < (x : Int)
     ·exact qBx
     ·exact qBx
    ·obtain rfl : i = D.length := by omega
     clear hgo hi
     have hl : ¬ (6 : Int) < (D.length : Int) := by omega
     by_cases hn : (1000 : Int) < (x : Int)
     ·have HZ := Lib.hid (HW.out.1 (Or.inl qB))
      exact qBx
     ·have HZ := Lib.hid (HW.out.2 qB)
      go_wp2_with fail
      exact bodyPost_ret (v := .int .i64 (x : Nat)) (by simp [results, Tryz.results196, go_sem]) rfl ⟨x, k1, 4, m1, rfl, by omega, HK.out, HGx, HX, HZ.out⟩
 ·have hq1 : (D == [48]) = false := by simp [h48]
  have HG := Lib.hid (And.intro hD hg)
  have HW : Hid (((1000 < numN (D.take 6) ∨ 6 < D.length) → DocRes L (rdTop (L.drop k) m0) (fun u => 0 = u) k1 e1 true) ∧ (¬ (1000 < numN (D.take 6) ∨ 6 < D.length) → DocRes L (rdTop (L.drop k) m0) (fun u => numN (D.take 6) = u) k1 e1 m1)) := Lib.hid (by
   rw [HT.out, HE.out, if_neg h48]
   by_cases hb : digitsB D = true
   ·rw [if_pos hb, if_pos hb]
    refine ⟨fun h => ?_, fun h => ?_⟩
    ·rw [if_pos h]; exact ⟨rfl, rfl, rfl, rfl⟩
    ·rw [if_neg h]; exact ⟨rfl, rfl, rfl, rfl⟩
   ·rw [if_neg hb, if_neg hb]
    exact ⟨fun _ => rfl, fun _ => rfl⟩)
  clear HT HE
  go_wp2_with fail
  clear hD hg y2 z2 hq1 h48
  generalize w1 = w2 at *
  obtain ⟨HD2, HG2⟩ := HG.out
  have HB2 := Below.refl w2.heap.size w2
  go_loopw [4, 5] (fun v4 v5 wr => ∃ i : Nat, i ≤ D.length ∧ i ≤ 6 ∧ v4 = .int .i64 (numN (D.take i) : Nat) ∧ v5 = .int .i64 i ∧ Below w2.heap.size w2 wr) (fun _ v5 _ => 6 - (intOf v5).toNat)
  case atStart => exact ⟨0, by omega, by omega, by simp [numN], rfl, HB2⟩
  case round =>
   obtain ⟨i, hi1, hi2, rfl, rfl, HBr⟩ := hrel
   have hx6 := numN_six HA.out hi2
   by_cases hgo : i < D.length ∧ i < 6
   ·exact qBk
   ·have h6 : D.take i = D.take 6 := by
     by_cases h : i < 6
     ·rw [List.take_of_length_le qB, List.take_of_length_le qB]
     ·rw [show i = 6 by omega]
    rw [h6] at hx6 ⊢
    have HX := HD2.keep HBr
    have HGx := HG2.trans (grown_below HBr (some R))
    have x3 := HX.c3
    have x4 := HX.f3
    generalize numN (D.take 6) = x at *
    clear h6
    by_cases hi : i < D.length
    ·obtain rfl : i = 6 := by omega
     clear hgo
     have hl : (6 : Int) < (D.length : Int) := by omega
     have HZ := Lib.hid (HW.out.1 (Or.inr qB))
     by_cases hn : (1000 : Int) < (x : Int)
     ·exact qBw
     ·exact qBw
    ·obtain rfl : i = D.length := by omega
     clear hgo hi
     have hl : ¬ (6 : Int) < (D.length : Int) := by omega
     by_cases hn : (1000 : Int) < (x : Int)
     ·have HZ := Lib.hid (HW.out.1 (Or.inl qB))
      exact qBw
     ·have HZ := Lib.hid (HW.out.2 qB)
      go_wp2_with fail
      exact bodyPost_ret (v := .int .i64 (x : Nat)) (by simp [results, Tryz.results196, go_sem]) rfl ⟨x, k1, e1, m1, rfl, by omega, HK.out, HGx, HX, HZ.out⟩
end Go.Proofs.YtdamegaedmckbaaGreatDoor
end
section
namespace Go.Proofs.YtdamegaedmckbaaGreatDoor
open Go.RowKit
def Ap (k n : Nat) (a : Option Addr) : Prop := n = 0 ∨ ∀ x, a = some x → x.block ≠ k
theorem RdL.ap {w w' : World} {a : Option Addr} {n c k : Nat} {d : List Nat} (h : RdL w a n c d) (ha : Ap k n a) (hg : w.grownBy w' (some k)) : RdL w' a n c d := by
 refine ⟨h.len, h.cap, h.few, h.top, h.small, ?_⟩
 rcases h.cell with h0 | ⟨b, o, hb, hc⟩
 ·exact .inl h0
 ·rcases ha with h0 | ha
  ·exact .inl h0
  ·exact .inr ⟨b, o, hb, fun i hi => hg.cell (hc i hi) fun e => ha _ hb (by simpa using e)⟩
theorem FracAt.ap {w w' : World} {g1 : Bool} {a1 : Option Addr} {n1 c1 : Nat} {p : Int} {g2 : Bool} {a2 : Option Addr} {n2 c2 k : Nat} {q : Int} (h : FracAt w g1 a1 n1 c1 p g2 a2 n2 c2 q) (h1 : Ap k n1 a1) (h2 : Ap k n2 a2) (hg : w.grownBy w' (some k)) : FracAt w' g1 a1 n1 c1 p g2 a2 n2 c2 q :=
 ⟨⟨h.top.neg, h.top.rd.ap h1 hg⟩, ⟨h.low.neg, h.low.rd.ap h2 hg⟩, h.pos, h.red⟩
theorem Nw.ap {B n k : Nat} {a : Option Addr} (h : Nw B n a) (hk : k < B) : Ap k n a := h.imp id fun h x hx e => by have := h x hx; omega
theorem RdL.ap_of {w : World} {a : Option Addr} {n c k : Nat} {d : List Nat} (h : RdL w a n c d) (hk : w.heap.size ≤ k) : Ap k n a := by
 rcases h.cell with h0 | ⟨b, o, hb, hc⟩
 ·exact .inl h0
 ·by_cases h0 : n = 0
  ·exact .inl h0
  ·right
   intro x hx e
   rw [hb] at hx
   cases hx
   have := World.block_lt_of_cell? _ _ (hc 0 qB)
   simp at this e
   omega
def BoxAt (w0 w : World) (CB OB : Nat) (c : PC) : Prop :=
 ∃ g1 a1 n1 c1 g2 a2 n2 c2, w.cell? ⟨CB, 0, none⟩ = some (.bool g1) ∧ w.cell? ⟨CB, 1, none⟩ = some (.slice a1 n1 c1) ∧ w.cell? ⟨CB, 2, none⟩ = some (.bool g2) ∧ w.cell? ⟨CB, 3, none⟩ = some (.slice a2 n2 c2) ∧
  FracAt w g1 a1 n1 c1 c.1 g2 a2 n2 c2 c.2 ∧ Nw w0.heap.size n1 a1 ∧ Nw w0.heap.size n2 a2 ∧ Ap CB n1 a1 ∧ Ap CB n2 a2 ∧ Ap OB n1 a1 ∧ Ap OB n2 a2
structure TermAt (w0 w : World) (R CB OB : Nat) (st : TS) : Prop where
 rdr : RdrAt w R st.L st.many
 fr : BoxAt w0 w CB OB st.c
 cf : ∀ i, i < 4 → w.frozen? ⟨CB, i, none⟩ = false
 oc : ∀ i, i < 4 → w.cell? ⟨OB, i, none⟩ = some (.int .i64 (st.o i : Nat))
 of : ∀ i, i < 4 → w.frozen? ⟨OB, i, none⟩ = false
 grown : w0.grownBy w (some R)
 h1 : R < w0.heap.size
 h2 : w0.heap.size ≤ CB
 h3 : CB < OB
 h4 : OB < w.heap.size
theorem BoxAt.grown {w0 w w' : World} {R CB OB : Nat} {c : PC} (h : BoxAt w0 w CB OB c) (hg : w.grownBy w' (some R)) (hR : R < w0.heap.size) (hC : CB ≠ R) : BoxAt w0 w' CB OB c := by
 obtain ⟨g1, a1, n1, c1, g2, a2, n2, c2, e0, e1, e2, e3, hf, k1, k2, k3, k4, k5, k6⟩ := h
 have hne : ∀ i, some (⟨CB, i, none⟩ : Addr).block ≠ some R := fun i => by simpa using hC
 exact ⟨g1, a1, n1, c1, g2, a2, n2, c2, hg.cell e0 (hne 0), hg.cell e1 (hne 1), hg.cell e2 (hne 2), hg.cell e3 (hne 3), hf.butR k1 k2 hg (fun k hk => by cases hk; exact hR), k1, k2, k3, k4, k5, k6⟩
theorem BoxAt.keep {w0 w w' : World} {CB OB : Nat} {c : PC} (h : BoxAt w0 w CB OB c) (hb : Below w.heap.size w w') : BoxAt w0 w' CB OB c := by
 obtain ⟨g1, a1, n1, c1, g2, a2, n2, c2, e0, e1, e2, e3, hf, k1, k2, k3, k4, k5, k6⟩ := h
 exact ⟨g1, a1, n1, c1, g2, a2, n2, c2, cell_keep hb e0, cell_keep hb e1, cell_keep hb e2, cell_keep hb e3, hf.keep hb, k1, k2, k3, k4, k5, k6⟩
theorem TermAt.rd {w0 w w' : World} {R CB OB : Nat} {st : TS} (h : TermAt w0 w R CB OB st) (hg : w.grownBy w' (some R)) {L : List UInt8} {m : Bool} (hr : RdrAt w' R L m) : TermAt w0 w' R CB OB ⟨st.c, st.o, L, m⟩ := by
 have k1 := h.h1; have k2 := h.h2; have k3 := h.h3; have k4 := h.h4
 have hsz := hg.size
 refine ⟨hr, h.fr.grown hg h.h1 qB, fun i hi => ?_, fun i hi => hg.cell (h.oc i hi) qM, fun i hi => ?_, h.grown.trans hg, h.h1, h.h2, h.h3, by omega⟩
 ·exact (grown_frozen hg qB qM).trans (h.cf i hi)
 ·exact (grown_frozen hg qB qM).trans (h.of i hi)
theorem TermAt.keep {w0 w w' : World} {R CB OB : Nat} {st : TS} (h : TermAt w0 w R CB OB st) (hb : Below w.heap.size w w') : TermAt w0 w' R CB OB st := by
 have k3 := h.h3; have k4 := h.h4
 have hsz := hb.size
 exact ⟨h.rdr.keep hb, h.fr.keep hb, fun i hi => (Below.frozen hb (by show CB < _; omega)).trans (h.cf i hi), fun i hi => cell_keep hb (h.oc i hi), fun i hi => (Below.frozen hb (by show OB < _; omega)).trans (h.of i hi), h.grown.trans (grown_below hb _), h.h1, h.h2, h.h3, by omega⟩
theorem TermAt.setO {w0 w : World} {R CB OB : Nat} {st : TS} (h : TermAt w0 w R CB OB st) (i : Nat) (hi : i < 4) (n : Nat) : TermAt w0 (w.setCell ⟨OB, i, none⟩ (.int .i64 (st.o i + n : Nat))) R CB OB ⟨st.c, bump st.o i n, st.L, st.many⟩ := by
 have k1 := h.h1; have k2 := h.h2; have k3 := h.h3; have k4 := h.h4
 have hg : w.grownBy (w.setCell ⟨OB, i, none⟩ (.int .i64 (st.o i + n : Nat))) (some OB) := grown_set _ (grown_refl _ _)
 obtain ⟨g1, a1, n1, c1, g2, a2, n2, c2, e0, e1, e2, e3, hf, q1, q2, q3, q4, q5, q6⟩ := h.fr
 have hne : ∀ j, some (⟨CB, j, none⟩ : Addr).block ≠ some OB := fun j => by simp; omega
 refine ⟨h.rdr.setOther _ (by show OB ≠ R; omega), ⟨g1, a1, n1, c1, g2, a2, n2, c2, hg.cell e0 (hne 0), hg.cell e1 (hne 1), hg.cell e2 (hne 2), hg.cell e3 (hne 3), hf.ap q5 q6 hg, q1, q2, q3, q4, q5, q6⟩, fun j hj => ?_, fun j hj => ?_, fun j hj => ?_, grown_setNew _ h.grown (by show w0.heap.size ≤ OB; omega), h.h1, h.h2, h.h3, by simpa using h.h4⟩
 ·exact (grown_frozen hg qB qM).trans (h.cf j hj)
 ·show World.cell? _ _ = some (Value.int .i64 (bump st.o i n j : Nat))
  unfold bump
  by_cases e : j = i
  ·subst e
   rw [if_pos rfl]
   have := h.oc j hi
   simp [*, go_sem]
  ·rw [if_neg e, ← h.oc j hj]
   exact World.cell?_setCell_other (w := w) (a := ⟨OB, i, none⟩) (b := ⟨OB, j, none⟩) _ (by intro e'; injection e' with e1' e2'; exact e e2'.symm)
 ·rw [← h.of j hj]; simp [go_sem]
theorem TermAt.setC {w0 w : World} {R CB OB : Nat} {st : TS} (h : TermAt w0 w R CB OB st) {g1 : Bool} {a1 : Option Addr} {n1 c1 : Nat} {g2 : Bool} {a2 : Option Addr} {n2 c2 : Nat} {c : PC} (hf : FracAt w g1 a1 n1 c1 c.1 g2 a2 n2 c2 c.2) (k1 : Nw (OB + 1) n1 a1) (k2 : Nw (OB + 1) n2 a2) :
  TermAt w0 ((((w.setCell ⟨CB, 0, none⟩ (.bool g1)).setCell ⟨CB, 1, none⟩ (.slice a1 n1 c1)).setCell ⟨CB, 2, none⟩ (.bool g2)).setCell ⟨CB, 3, none⟩ (.slice a2 n2 c2)) R CB OB ⟨c, st.o, st.L, st.many⟩ := by
 have q1 := h.h1; have q2 := h.h2; have q3 := h.h3; have q4 := h.h4
 have hg : w.grownBy ((((w.setCell ⟨CB, 0, none⟩ (.bool g1)).setCell ⟨CB, 1, none⟩ (.slice a1 n1 c1)).setCell ⟨CB, 2, none⟩ (.bool g2)).setCell ⟨CB, 3, none⟩ (.slice a2 n2 c2)) (some CB) := grown_set _ (grown_set _ (grown_set _ (grown_set _ (grown_refl _ _))))
 obtain ⟨_, _, _, _, _, _, _, _, e0, e1, e2, e3, _⟩ := h.fr
 have hCR : CB ≠ R := by omega
 have cz : ∀ i, i < 4 → w.frozen? ⟨CB, i, none⟩ = false := h.cf
 refine ⟨(((h.rdr.setOther _ hCR).setOther _ hCR).setOther _ hCR).setOther _ hCR, ⟨g1, a1, n1, c1, g2, a2, n2, c2, by simp [*, go_sem], by simp [*, go_sem], by simp [*, go_sem], by simp [*, go_sem], hf.ap (k1.ap qB) (k2.ap qB) hg, k1.mono qB, k2.mono qB, k1.ap qB, k2.ap qB, k1.ap qB, k2.ap qB⟩, fun j hj => ?_, fun j hj => hg.cell (h.oc j hj) qM, fun j hj => (grown_frozen hg qB qM).trans (h.of j hj), grown_setNew _ (grown_setNew _ (grown_setNew _ (grown_setNew _ h.grown h.h2) h.h2) h.h2) h.h2, h.h1, h.h2, h.h3, by simpa using h.h4⟩
 rw [← h.cf j hj]; simp [go_sem]
end Go.Proofs.YtdamegaedmckbaaGreatDoor
end
section
namespace Go.Proofs.YtdamegaedmckbaaGreatDoor
open Go.RowKit
def ApT (k : Nat) (t : Tm) : Prop := Ap k t.n1 t.a1 ∧ Ap k t.n2 t.a2
def NwT (B : Nat) (t : Tm) : Prop := Nw B t.n1 t.a1 ∧ Nw B t.n2 t.a2
structure OutAt (w : World) (B : Nat) (v : Value) (s : Nat → Tm) (out : List PT) : Prop where
 own : w.ownsRow B 68 8 v out.length (tvals s out.length)
 ts : ∀ i x, out[i]? = some x → TmIs (s i) x ∧ RdTm w (s i) ∧ NwT B (s i) ∧ ∀ gb, v.ownBlock = some gb → ApT gb (s i)
theorem OutAt.nil (w : World) (B : Nat) (s : Nat → Tm) : OutAt w B (.slice none 0 0) s [] :=
 ⟨⟨rfl, .inl ⟨rfl, rfl⟩⟩, fun i x hx => by simp at hx⟩
theorem OutAt.keep {w w' : World} {B : Nat} {v : Value} {s : Nat → Tm} {out : List PT} (h : OutAt w B v s out) (hb : Below w.heap.size w w') : OutAt w' B v s out :=
 ⟨ownsRow_keep h.own hb, fun i x hx => by obtain ⟨a, b, c, d⟩ := h.ts i x hx; exact ⟨a, b.keep hb, c, d⟩⟩
theorem RdTm.apT {w w' : World} {t : Tm} {row : Option Nat} (h : RdTm w t) (hg : w.grownBy w' row) (ha : ∀ gb, row = some gb → ApT gb t) : RdTm w' t := by
 cases row with
 | none => exact h.keep ⟨hg.os, hg.tape, hg.output, hg.size, fun k hk => hg.block k hk qH⟩
 | some gb =>
  obtain ⟨a1, a2⟩ := ha gb rfl
  exact ⟨h.top.ap a1 hg, h.low.ap a2 hg, h.s0, h.s1, h.s2, h.s3⟩
theorem OutAt.add {w w' : World} {B : Nat} {v v' : Value} {s : Nat → Tm} {out : List PT} (h : OutAt w B v s out) {t : Tm} {x : PT} (hx : TmIs t x) (hr : RdTm w t) (hn : NwT B t) (ha : ∀ gb, v.ownBlock = some gb → ApT gb t)
  (hg : w.grownBy w' v.ownBlock) (hown : w'.ownsRow B 68 8 v' (out.length + 1) (tvals s out.length ++ t.cells)) (hat : v'.ownBlock = v.ownBlock ∨ v'.ownBlock = some w.heap.size) :
  OutAt w' B v' (fun j => if j = out.length then t else s j) (out ++ [x]) := by
 have key : ∀ t : Tm, RdTm w t → (∀ gb, v.ownBlock = some gb → ApT gb t) → ∀ gb, v'.ownBlock = some gb → ApT gb t := fun t hr ha gb hgb => by
  rcases hat with e | e
  ·exact ha gb (e ▸ hgb)
  ·rw [e] at hgb
   cases hgb
   exact ⟨hr.top.ap_of (Nat.le_refl _), hr.low.ap_of (Nat.le_refl _)⟩
 refine ⟨?_, fun i y hy => ?_⟩
 ·rw [List.length_append, List.length_singleton, tvals, if_pos rfl, tvals_congr (s' := s) (fun j hj => if_neg qB)]
  exact hown
 ·show TmIs (if i = out.length then t else s i) y ∧ RdTm w' (if i = out.length then t else s i) ∧ NwT B (if i = out.length then t else s i) ∧ _
  by_cases hi : i = out.length
  ·subst hi
   rw [List.getElem?_append_right (Nat.le_refl _)] at hy
   simp only [Nat.sub_self, List.getElem?_cons_zero, Option.some.injEq] at hy
   subst hy
   rw [if_pos rfl]
   exact ⟨hx, hr.apT hg ha, hn, key t hr ha⟩
  ·have hlt : i < out.length := by
    have := (List.getElem?_eq_some_iff.1 hy).1
    simp at this
    omega
   rw [List.getElem?_append_left hlt] at hy
   obtain ⟨a, b, c, d⟩ := h.ts i y hy
   rw [if_neg hi]
   exact ⟨a, b.apT hg d, c, key _ b d⟩
theorem OutAt.poly {w : World} {B : Nat} {v : Value} {s : Nat → Tm} {out : List PT} (h : OutAt w B v s out) (hl : out.length ≤ 35184372088832) : ∃ a c, v = .slice a out.length c ∧ PolyAt w B a out.length c out := by
 rcases h.own.2 with ⟨rfl, h0⟩ | ⟨g, cap, cur, rfl, hg, hgb, hnc, hcm, hsz, htk⟩
 ·obtain rfl : out = [] := List.length_eq_zero_iff.1 h0
  exact ⟨none, 0, rfl, PolyAt.nil _ _⟩
 ·refine ⟨some ⟨g, 0, none⟩, cap, rfl, rfl, .inr (fun y hy => by cases hy; exact hg), fun e => (by cases e), s, ⟨hnc, hl, hcm, fun i hi => ?_, .inr ⟨g, 0, rfl, fun i hi => tmAt_of_owns h.own hi⟩⟩, fun i x hx => ?_⟩
  ·obtain ⟨x, hx⟩ : ∃ x, out[i]? = some x := ⟨_, List.getElem?_eq_getElem hi⟩
   exact (h.ts i x hx).2.1
  ·obtain ⟨a, _, c, _⟩ := h.ts i x hx
   exact ⟨a, c.1, c.2⟩
def tlA (g o c : Nat) : Addr := ⟨g, if c = 1 then o else o + 8, none⟩
theorem run_tail (W : World) (g o n c : Nat) (hn : n + 1 ≤ c) : (Instr.sliceAt 23 (.slice (some ⟨g, o, none⟩) ((n + 1 : Nat)) c) (some (.int .i64 1)) none none).run Tryz.prog W = .ok (.slice (some (tlA g o c)) n (c - 1)) W := by
 have h0 : (1 : Int) ≤ (n : Int) + 1 := by omega
 unfold tlA
 by_cases hc : c = 1
 ·subst hc
  simp [Instr.sliceAt, Instr.slice, Instr.sliceBounds, Instr.sliceBound, go_sem, h0]
 ·have hc' : ¬ c = 1 := hc
  simp [Instr.sliceAt, Instr.slice, Instr.sliceBounds, Instr.sliceBound, go_sem, h0, hc']
theorem PolyAt.tail {w : World} {B g o n c : Nat} {x : PT} {l : List PT} (h : PolyAt w B (some ⟨g, o, none⟩) (n + 1) c (x :: l)) : PolyAt w B (some (tlA g o c)) n (c - 1) l := by
 obtain ⟨p, hp, hx⟩ := h.ts
 have hlen := h.len
 simp only [List.length_cons] at hlen
 have hcp := hp.cap
 have hfw := hp.few
 have htp := hp.top
 have hb : NewA B (some ⟨g, o, none⟩) := h.base.resolve_left qB
 refine ⟨by omega, .inr (fun y hy => ?_), fun e => (by cases e), fun i => p (i + 1), ⟨by omega, by omega, by omega, fun i hi => hp.tm _ qB, ?_⟩, fun i y hy => hx (i + 1) y (by simpa using hy)⟩
 ·cases hy
  exact hb ⟨g, o, none⟩ rfl
 ·by_cases hn : n = 0
  ·exact .inl hn
  ·refine .inr ⟨g, o + 8, by unfold tlA; rw [if_neg qB], fun i hi => ?_⟩
   have := hp.at (i := i + 1) qB
   rw [show o + 8 + i * 8 = o + (i + 1) * 8 by omega]
   exact this
theorem PolyAt.head {w : World} {B n c : Nat} {a : Option Addr} {x : PT} {l : List PT} (h : PolyAt w B a n c (x :: l)) : ∃ g o t, a = some ⟨g, o, none⟩ ∧ n = l.length + 1 ∧ l.length + 1 ≤ c ∧ TmAt w g o t ∧ RdTm w t ∧ TmIs t x := by
 obtain ⟨p, hp, hx⟩ := h.ts
 have hlen := h.len
 simp only [List.length_cons] at hlen
 obtain ⟨g, o, rfl, hc⟩ := hp.cell.resolve_left qB
 have h0 := hc 0 qB
 simp only [Nat.zero_mul, Nat.add_zero] at h0
 exact ⟨g, o, p 0, rfl, hlen.symm, by have := hp.cap; omega, h0, hp.tm 0 qB, (hx 0 x rfl).1⟩
end Go.Proofs.YtdamegaedmckbaaGreatDoor
end
section
namespace Go.Proofs.YtdamegaedmckbaaGreatDoor
open Go.RowKit
def quadN (m0 m1 m2 m3 : Nat) : Nat → Nat
 | 0 => m0
 | 1 => m1
 | 2 => m2
 | _ => m3
end Go.Proofs.YtdamegaedmckbaaGreatDoor
end
