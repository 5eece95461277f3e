/- The document's reader: power (function 196). No further condition. -/
import Derived.Test.YtdamegaedmckbaaGreatDoorQP27
set_option linter.unusedSimpArgs false
set_option linter.unusedVariables false
set_option maxRecDepth 100000
set_option maxHeartbeats 4000000
section
namespace Go.Proofs.YtdamegaedmckbaaGreatDoor
open Go.RowKit
def Ke (L : List UInt8) (many : Bool) : Option (Nat × List UInt8 × Bool) :=
 match Eq L many with
 | none => none
 | some (d, r, m) => if 1000 < Bd d then some (0, r, true) else some (Bd d, r, m)
def Fx {α : Type} (L : List UInt8) (x : Option (α × List UInt8 × Bool)) (good : α → Prop) (k' : Nat) (e' : Int) (m' : Bool) : Prop :=
 match x with
 | none => e' = 4
 | some (v, r, m) => e' = 0 ∧ L.drop k' = r ∧ m' = m ∧ good v
def aK (w : World) (R : Nat) (L : List UInt8) (k : Nat) (m0 : Bool) (e : Ending) (w' : World) : Prop :=
 ∃ (n k' : Nat) (e' : Int) (m' : Bool), e = .returned (.int .i64 (n : Nat)) ∧ n ≤ 1000 ∧ k ≤ k' ∧ w.grownBy w' (some R) ∧ Bh w' R L k' e' m' ∧ Fx L (Ke (L.drop k) m0) (fun v => n = v) k' e' m'
theorem Lu (L : List UInt8) (k : Nat) (m : Bool) : Fe (L.drop k) m = if Bb (Bn L k) then some (Bn L k, L.drop (k + (Bn L k).length), m || decide (200 < (Bn L k).length)) else none := by
 unfold Fe Bn
 have e := List.takeWhile_append_dropWhile (p := Bl) (l := L.drop k)
 have h1 := List.drop_left (l₁ := (L.drop k).takeWhile Bl) (l₂ := (L.drop k).dropWhile Bl)
 rw [e, List.drop_drop] at h1
 rw [← h1]
theorem Xk (L : List UInt8) (k : Nat) : (Bn L k).all Bl = true := List.all_takeWhile
theorem Rm {d : List UInt8} (h : d.all Bl = true) {i : Nat} (hi : i ≤ 6) : Bd (d.take i) < 1000000 := by
 have h0 : (d.take i).all Bl = true := by
  rw [List.all_eq_true] at h ⊢
  exact fun x hx => h x (List.mem_of_mem_take hx)
 have h1 := Mt h0
 have h2 : 10 ^ (d.take i).length ≤ 10 ^ 6 := Nat.pow_le_pow_right qB (by rw [List.length_take]; omega)
 omega
theorem Na {d : List UInt8} {i : Nat} (h : i < d.length) : Bd (d.take (i + 1)) = 10 * Bd (d.take i) + (d[i].toNat - 48) := by
 rw [List.take_succ_eq_append_getElem h, Pg]
theorem Ym {d : List UInt8} (h : Bb d = true) (hl : 6 < d.length) : 1000 < Bd d := by
 cases d with
 | nil => cases h
 | cons b r =>
  simp only [Bb, Bool.and_eq_true, Bool.or_eq_true, decide_eq_true_eq, List.all_cons] at h
  have hr : ¬ (b.toNat : Int) = 48 := by
   rcases h.2 with h2 | h2
   ·simp at hl; simp at h2; subst h2; simp at hl
   ·exact h2
  have hb := h.1.1
  unfold Bl at hb
  rw [decide_eq_true_eq] at hb
  have e : Bd (b :: r) = (b.toNat - 48) * 10 ^ r.length + Bd r := by
   exact qEh
  simp only [List.length_cons] at hl
  have h6 : 10 ^ 6 ≤ 10 ^ r.length := Nat.pow_le_pow_right qB qB
  have h7 : 1 * 10 ^ r.length ≤ (b.toNat - 48) * 10 ^ r.length := Nat.mul_le_mul_right _ qB
  omega
theorem fE (L : List UInt8) (k : Nat) (m : Bool) : Ke (L.drop k) m = if Bb (Bn L k) then (if Bn L k = [48] then none else
  if 1000 < Bd ((Bn L k).take 6) ∨ 6 < (Bn L k).length then some (0, L.drop (k + (Bn L k).length), true) else some (Bd ((Bn L k).take 6), L.drop (k + (Bn L k).length), m || decide (200 < (Bn L k).length))) else none := by
 unfold Ke Eq
 rw [Lu]
 generalize Bn L k = D
 by_cases h : Bb D = true
 ·rw [if_pos h, if_pos h]
  by_cases h48 : D = [48]
  ·simp [h48]
  ·simp only [if_neg h48]
   by_cases h6 : 6 < D.length
   ·rw [if_pos (Ym h h6), if_pos (Or.inr h6)]
   ·rw [As qB]
    by_cases h1 : 1000 < Bd D
    ·rw [if_pos h1, if_pos (Or.inl h1)]
    ·rw [if_neg h1, if_neg qB]
 ·rw [if_neg h, if_neg h]
theorem Ig (wo : World) (R : Nat) (L : List UInt8) (k : Nat) (m0 : Bool) (h : Bh wo R L k 0 m0) (hL : L.length < 1000000000) :
  Calls Tryz.prog 196 #[.pointer (some ⟨R, 0, none⟩)] wo (aK wo R L k m0) := by
 have HT := Ae (fE L k m0)
 have HA := Ae (Xk L k)
 go_enter Tryz.func196, Tryz.ntmps196
 go_wp2_with fail
 refine (Ji wo R L k 0 m0 h hL).mono ?_
 rintro e w1 ⟨rfl, hg, hD⟩
 have hdl : (Bn L k).length < 1000000000 := by have := hD.le; omega
 generalize Bn L k = D at *
 obtain ⟨e1, he1⟩ : ∃ e1 : Int, e1 = if Bb D then 0 else 4 := ⟨_, rfl⟩
 obtain ⟨m1, hm1⟩ : ∃ m1 : Bool, m1 = (m0 || decide (200 < D.length)) := ⟨_, rfl⟩
 obtain ⟨k1, hk1⟩ : ∃ k1 : Nat, k1 = k + D.length := ⟨_, rfl⟩
 rw [← he1, ← hm1, ← hk1] at hD
 rw [← hm1, ← hk1] at HT
 have HE := Ae he1
 have HK := Ae (show k ≤ k1 by omega)
 clear he1 hm1 hk1 h
 have y2 := hD.c2
 have z2 := hD.f2
 by_cases h48 : D = [48]
 ·have hq1 : (D == [48]) = true := by simp [h48]
  have HX := Ae (show Ke (L.drop k) m0 = none by rw [HT.out, h48]; rfl)
  have HG : Hid (Bh (w1.setCell ⟨R, 2, none⟩ (.int .i64 4)) R L k1 4 m1 ∧ wo.grownBy (w1.setCell ⟨R, 2, none⟩ (.int .i64 4)) (some R)) := Ae ⟨hD.set2 4, Aw _ hg⟩
  have HW : Hid (((1000 < Bd (D.take 6) ∨ 6 < D.length) → Fx L (Ke (L.drop k) m0) (fun u => 0 = u) k1 4 true) ∧ (¬ (1000 < Bd (D.take 6) ∨ 6 < D.length) → Fx L (Ke (L.drop k) m0) (fun u => Bd (D.take 6) = u) k1 4 m1)) := Ae (by rw [HX.out]; exact ⟨fun _ => rfl, fun _ => rfl⟩)
  clear h48 HT HX HE
  go_wp2_with fail
  clear hD hg y2 z2 hq1
  generalize w1.setCell ⟨R, 2, none⟩ (.int .i64 4) = w2 at *
  obtain ⟨HD2, HG2⟩ := HG.out
  have HB2 := Ac w2.heap.size w2
  go_loopw [4, 5] (fun v4 v5 wr => ∃ i : Nat, i ≤ D.length ∧ i ≤ 6 ∧ v4 = .int .i64 (Bd (D.take i) : Nat) ∧ v5 = .int .i64 i ∧ Below w2.heap.size w2 wr) (fun _ v5 _ => 6 - (intOf v5).toNat)
  case atStart => exact ⟨0, by omega, by omega, by simp [Bd], rfl, HB2⟩
  case round =>
   obtain ⟨i, hi1, hi2, rfl, rfl, HBr⟩ := hrel
   have hx6 := Rm HA.out hi2
   by_cases hgo : i < D.length ∧ i < 6
   ·exact qBl
   ·have h6 : D.take i = D.take 6 := by
     exact qEn
    rw [h6] at hx6 ⊢
    have HX := HD2.keep HBr
    have HGx := HG2.trans (Az HBr (some R))
    have x3 := HX.c3
    have x4 := HX.f3
    generalize Bd (D.take 6) = x at *
    clear h6
    by_cases hi : i < D.length
    ·obtain rfl : i = 6 := by omega
     clear hgo
     have hl : (6 : Int) < (D.length : Int) := by omega
     have HZ := Ae (HW.out.1 (Or.inr qB))
     by_cases hn : (1000 : Int) < (x : Int)
     ·exact qCd
     ·exact qCd
    ·obtain rfl : i = D.length := by omega
     clear hgo hi
     have hl : ¬ (6 : Int) < (D.length : Int) := by omega
     by_cases hn : (1000 : Int) < (x : Int)
     ·have HZ := Ae (HW.out.1 (Or.inl qB))
      exact qCd
     ·have HZ := Ae (HW.out.2 qB)
      go_wp2_with fail
      exact bodyPost_ret (v := .int .i64 (x : Nat)) (by simp [results, Tryz.results196, go_sem]) rfl ⟨x, k1, 4, m1, rfl, by omega, HK.out, HGx, HX, HZ.out⟩
 ·have hq1 : (D == [48]) = false := by simp [h48]
  have HG := Ae (And.intro hD hg)
  have HW : Hid (((1000 < Bd (D.take 6) ∨ 6 < D.length) → Fx L (Ke (L.drop k) m0) (fun u => 0 = u) k1 e1 true) ∧ (¬ (1000 < Bd (D.take 6) ∨ 6 < D.length) → Fx L (Ke (L.drop k) m0) (fun u => Bd (D.take 6) = u) k1 e1 m1)) := Ae (by
   rw [HT.out, HE.out, if_neg h48]
   by_cases hb : Bb D = true
   ·rw [if_pos hb, if_pos hb]
    refine ⟨fun h => ?_, fun h => ?_⟩
    ·rw [if_pos h]; exact ⟨rfl, rfl, rfl, rfl⟩
    ·rw [if_neg h]; exact ⟨rfl, rfl, rfl, rfl⟩
   ·rw [if_neg hb, if_neg hb]
    exact ⟨fun _ => rfl, fun _ => rfl⟩)
  clear HT HE
  go_wp2_with fail
  clear hD hg y2 z2 hq1 h48
  generalize w1 = w2 at *
  obtain ⟨HD2, HG2⟩ := HG.out
  have HB2 := Ac w2.heap.size w2
  go_loopw [4, 5] (fun v4 v5 wr => ∃ i : Nat, i ≤ D.length ∧ i ≤ 6 ∧ v4 = .int .i64 (Bd (D.take i) : Nat) ∧ v5 = .int .i64 i ∧ Below w2.heap.size w2 wr) (fun _ v5 _ => 6 - (intOf v5).toNat)
  case atStart => exact ⟨0, by omega, by omega, by simp [Bd], rfl, HB2⟩
  case round =>
   obtain ⟨i, hi1, hi2, rfl, rfl, HBr⟩ := hrel
   have hx6 := Rm HA.out hi2
   by_cases hgo : i < D.length ∧ i < 6
   ·exact qBl
   ·have h6 : D.take i = D.take 6 := by
     exact qEn
    rw [h6] at hx6 ⊢
    have HX := HD2.keep HBr
    have HGx := HG2.trans (Az HBr (some R))
    have x3 := HX.c3
    have x4 := HX.f3
    generalize Bd (D.take 6) = x at *
    clear h6
    by_cases hi : i < D.length
    ·obtain rfl : i = 6 := by omega
     clear hgo
     have hl : (6 : Int) < (D.length : Int) := by omega
     have HZ := Ae (HW.out.1 (Or.inr qB))
     by_cases hn : (1000 : Int) < (x : Int)
     ·exact qCb
     ·exact qCb
    ·obtain rfl : i = D.length := by omega
     clear hgo hi
     have hl : ¬ (6 : Int) < (D.length : Int) := by omega
     by_cases hn : (1000 : Int) < (x : Int)
     ·have HZ := Ae (HW.out.1 (Or.inl qB))
      exact qCb
     ·have HZ := Ae (HW.out.2 qB)
      go_wp2_with fail
      exact bodyPost_ret (v := .int .i64 (x : Nat)) (by simp [results, Tryz.results196, go_sem]) rfl ⟨x, k1, e1, m1, rfl, by omega, HK.out, HGx, HX, HZ.out⟩
def Ap (k n : Nat) (a : Option Addr) : Prop := n = 0 ∨ ∀ x, a = some x → x.block ≠ k
theorem RdL.ap {w w' : World} {a : Option Addr} {n c k : Nat} {d : List Nat} (h : RdL w a n c d) (ha : Ap k n a) (hg : w.grownBy w' (some k)) : RdL w' a n c d := by
 refine ⟨h.len, h.cap, h.few, h.top, h.small, ?_⟩
 rcases h.cell with h0 | ⟨b, o, hb, hc⟩
 ·exact .inl h0
 ·rcases ha with h0 | ha
  ·exact .inl h0
  ·exact .inr ⟨b, o, hb, fun i hi => hg.cell (hc i hi) fun e => ha _ hb (by simpa using e)⟩
theorem Bj.ap {w w' : World} {g1 : Bool} {a1 : Option Addr} {n1 c1 : Nat} {p : Int} {g2 : Bool} {a2 : Option Addr} {n2 c2 k : Nat} {q : Int} (h : Bj w g1 a1 n1 c1 p g2 a2 n2 c2 q) (h1 : Ap k n1 a1) (h2 : Ap k n2 a2) (hg : w.grownBy w' (some k)) : Bj w' g1 a1 n1 c1 p g2 a2 n2 c2 q :=
 ⟨⟨h.top.neg, h.top.rd.ap h1 hg⟩, ⟨h.low.neg, h.low.rd.ap h2 hg⟩, h.pos, h.red⟩
theorem Nw.ap {B n k : Nat} {a : Option Addr} (h : Nw B n a) (hk : k < B) : Ap k n a := h.imp id fun h x hx e => by have := h x hx; omega
theorem RdL.ap_of {w : World} {a : Option Addr} {n c k : Nat} {d : List Nat} (h : RdL w a n c d) (hk : w.heap.size ≤ k) : Ap k n a := by
 rcases h.cell with h0 | ⟨b, o, hb, hc⟩
 ·exact .inl h0
 ·by_cases h0 : n = 0
  ·exact .inl h0
  ·right
   intro x hx e
   rw [hb] at hx
   cases hx
   have := Aa _ _ (hc 0 qB)
   simp at this e
   omega
theorem Ap.few {k n c : Nat} {a : Option Addr} (h : Ap k c a) (hn : n ≤ c) : Ap k n a := h.imp (fun h => by omega) id
theorem Av.apk {B k c : Nat} {w : World} {a : Option Addr} (h : Av B w a c) (hk : k < B) : Ap k c a := by
 rcases h with h | ⟨b, cur, h1, h2, _⟩
 ·exact .inl h
 ·exact .inr fun x hx e => by rw [h1] at hx; cases hx; simp at e; omega
theorem Av.ap_of {B k c : Nat} {w : World} {a : Option Addr} (h : Av B w a c) (hk : w.heap.size ≤ k) : Ap k c a := by
 rcases h with h | ⟨b, cur, h1, h2, h3, _⟩
 ·exact .inl h
 ·exact .inr fun x hx e => by rw [h1] at hx; cases hx; have := (Ar.1 h3).1; simp at e; omega
theorem Av.off_ap {B k c : Nat} {w w' : World} {a : Option Addr} (h : Av B w a c) (ha : Ap k c a) (hg : w.grownBy w' (some k)) : Av B w' a c := by
 rcases h with h | ⟨b, cur, h1, h2, h3, h4⟩
 ·exact .inl h
 ·rcases ha with ha | ha
  ·exact .inl ha
  ·exact .inr ⟨b, cur, h1, h2, by rw [hg.block b (Ar.1 h3).1 (fun e => ha _ h1 (by simpa using e))]; exact h3, h4⟩
def Mi (w0 w : World) (CB OB : Nat) (c : PC) : Prop :=
 ∃ g1 a1 n1 c1 g2 a2 n2 c2, w.cell? ⟨CB, 0, none⟩ = some (.bool g1) ∧ w.cell? ⟨CB, 1, none⟩ = some (.slice a1 n1 c1) ∧ w.cell? ⟨CB, 2, none⟩ = some (.bool g2) ∧ w.cell? ⟨CB, 3, none⟩ = some (.slice a2 n2 c2) ∧
  Bj w g1 a1 n1 c1 c.1 g2 a2 n2 c2 c.2 ∧ Av w0.heap.size w a1 c1 ∧ Av w0.heap.size w a2 c2 ∧ Ap CB c1 a1 ∧ Ap CB c2 a2 ∧ Ap OB c1 a1 ∧ Ap OB c2 a2 ∧ Ap2 a1 c1 a2 c2
structure C5 (w0 w : World) (R CB OB : Nat) (st : TS) : Prop where
 rdr : By w R st.L st.many
 fr : Mi w0 w CB OB st.c
 cf : ∀ i, i < 4 → w.frozen? ⟨CB, i, none⟩ = false
 oc : ∀ i, i < 4 → w.cell? ⟨OB, i, none⟩ = some (.int .i64 (st.o i : Nat))
 of : ∀ i, i < 4 → w.frozen? ⟨OB, i, none⟩ = false
 grown : w0.grownBy w (some R)
 h1 : R < w0.heap.size
 h2 : w0.heap.size ≤ CB
 h3 : CB < OB
 h4 : OB < w.heap.size
theorem Mi.grown {w0 w w' : World} {R CB OB : Nat} {c : PC} (h : Mi w0 w CB OB c) (hg : w.grownBy w' (some R)) (hR : R < w0.heap.size) (hC : CB ≠ R) : Mi w0 w' CB OB c := by
 obtain ⟨g1, a1, n1, c1, g2, a2, n2, c2, e0, e1, e2, e3, hf, k1, k2, k3, k4, k5, k6, k7⟩ := h
 have hne : ∀ i, some (⟨CB, i, none⟩ : Addr).block ≠ some R := fun i => by simpa using hC
 exact ⟨g1, a1, n1, c1, g2, a2, n2, c2, hg.cell e0 (hne 0), hg.cell e1 (hne 1), hg.cell e2 (hne 2), hg.cell e3 (hne 3), hf.butR (k1.newA hf.top.rd) (k2.newA hf.low.rd) hg (fun k hk => by cases hk; exact hR), k1.butR hg (fun k hk => by cases hk; exact hR), k2.butR hg (fun k hk => by cases hk; exact hR), k3, k4, k5, k6, k7⟩
theorem Mi.keep {w0 w w' : World} {CB OB : Nat} {c : PC} (h : Mi w0 w CB OB c) (hb : Below w.heap.size w w') : Mi w0 w' CB OB c := by
 obtain ⟨g1, a1, n1, c1, g2, a2, n2, c2, e0, e1, e2, e3, hf, k1, k2, k3, k4, k5, k6, k7⟩ := h
 exact ⟨g1, a1, n1, c1, g2, a2, n2, c2, Au hb e0, Au hb e1, Au hb e2, Au hb e3, hf.keep hb, k1.keep hb, k2.keep hb, k3, k4, k5, k6, k7⟩
theorem C5.rd {w0 w w' : World} {R CB OB : Nat} {st : TS} (h : C5 w0 w R CB OB st) (hg : w.grownBy w' (some R)) {L : List UInt8} {m : Bool} (hr : By w' R L m) : C5 w0 w' R CB OB ⟨st.c, st.o, L, m⟩ := by
 have k1 := h.h1; have k2 := h.h2; have k3 := h.h3; have k4 := h.h4
 have hsz := hg.size
 refine ⟨hr, h.fr.grown hg h.h1 qB, fun i hi => ?_, fun i hi => hg.cell (h.oc i hi) qL, fun i hi => ?_, h.grown.trans hg, h.h1, h.h2, h.h3, by omega⟩
 ·exact (Bg hg qB qL).trans (h.cf i hi)
 ·exact (Bg hg qB qL).trans (h.of i hi)
theorem C5.keep {w0 w w' : World} {R CB OB : Nat} {st : TS} (h : C5 w0 w R CB OB st) (hb : Below w.heap.size w w') : C5 w0 w' R CB OB st := by
 have k3 := h.h3; have k4 := h.h4
 have hsz := hb.size
 exact ⟨h.rdr.keep hb, h.fr.keep hb, fun i hi => (Ab hb (by show CB < _; omega)).trans (h.cf i hi), fun i hi => Au hb (h.oc i hi), fun i hi => (Ab hb (by show OB < _; omega)).trans (h.of i hi), h.grown.trans (Az hb _), h.h1, h.h2, h.h3, by omega⟩
theorem C5.setO {w0 w : World} {R CB OB : Nat} {st : TS} (h : C5 w0 w R CB OB st) (i : Nat) (hi : i < 4) (n : Nat) : C5 w0 (w.setCell ⟨OB, i, none⟩ (.int .i64 (st.o i + n : Nat))) R CB OB ⟨st.c, Fl st.o i n, st.L, st.many⟩ := by
 have k1 := h.h1; have k2 := h.h2; have k3 := h.h3; have k4 := h.h4
 have hg : w.grownBy (w.setCell ⟨OB, i, none⟩ (.int .i64 (st.o i + n : Nat))) (some OB) := Aw _ (Bc _ _)
 obtain ⟨g1, a1, n1, c1, g2, a2, n2, c2, e0, e1, e2, e3, hf, q1, q2, q3, q4, q5, q6, q7⟩ := h.fr
 have hne : ∀ j, some (⟨CB, j, none⟩ : Addr).block ≠ some OB := fun j => by simp; omega
 refine ⟨h.rdr.setOther _ (by show OB ≠ R; omega), ⟨g1, a1, n1, c1, g2, a2, n2, c2, hg.cell e0 (hne 0), hg.cell e1 (hne 1), hg.cell e2 (hne 2), hg.cell e3 (hne 3), hf.ap (q5.few hf.top.rd.cap) (q6.few hf.low.rd.cap) hg, q1.off_ap q5 hg, q2.off_ap q6 hg, q3, q4, q5, q6, q7⟩, fun j hj => ?_, fun j hj => ?_, fun j hj => ?_, A5 _ h.grown (by show w0.heap.size ≤ OB; omega), h.h1, h.h2, h.h3, by simpa using h.h4⟩
 ·exact (Bg hg qB qL).trans (h.cf j hj)
 ·show World.cell? _ _ = some (Value.int .i64 (Fl st.o i n j : Nat))
  unfold Fl
  by_cases e : j = i
  ·subst e
   rw [if_pos rfl]
   have := h.oc j hi
   simp [*, go_sem]
  ·rw [if_neg e, ← h.oc j hj]
   exact World.cell?_setCell_other (w := w) (a := ⟨OB, i, none⟩) (b := ⟨OB, j, none⟩) _ (by intro e'; injection e' with e1' e2'; exact e e2'.symm)
 ·rw [← h.of j hj]; simp [go_sem]
theorem C5.setC {w0 w : World} {R CB OB : Nat} {st : TS} (h : C5 w0 w R CB OB st) {g1 : Bool} {a1 : Option Addr} {n1 c1 : Nat} {g2 : Bool} {a2 : Option Addr} {n2 c2 : Nat} {c : PC} (hf : Bj w g1 a1 n1 c1 c.1 g2 a2 n2 c2 c.2) (k1 : Av (OB + 1) w a1 c1) (k2 : Av (OB + 1) w a2 c2) (hap : Ap2 a1 c1 a2 c2) :
  C5 w0 ((((w.setCell ⟨CB, 0, none⟩ (.bool g1)).setCell ⟨CB, 1, none⟩ (.slice a1 n1 c1)).setCell ⟨CB, 2, none⟩ (.bool g2)).setCell ⟨CB, 3, none⟩ (.slice a2 n2 c2)) R CB OB ⟨c, st.o, st.L, st.many⟩ := by
 have q1 := h.h1; have q2 := h.h2; have q3 := h.h3; have q4 := h.h4
 have hg : w.grownBy ((((w.setCell ⟨CB, 0, none⟩ (.bool g1)).setCell ⟨CB, 1, none⟩ (.slice a1 n1 c1)).setCell ⟨CB, 2, none⟩ (.bool g2)).setCell ⟨CB, 3, none⟩ (.slice a2 n2 c2)) (some CB) := Aw _ (Aw _ (Aw _ (Aw _ (Bc _ _))))
 obtain ⟨_, _, _, _, _, _, _, _, e0, e1, e2, e3, _⟩ := h.fr
 have hCR : CB ≠ R := by omega
 have cz : ∀ i, i < 4 → w.frozen? ⟨CB, i, none⟩ = false := h.cf
 refine ⟨(((h.rdr.setOther _ hCR).setOther _ hCR).setOther _ hCR).setOther _ hCR, ⟨g1, a1, n1, c1, g2, a2, n2, c2, by simp [*, go_sem], by simp [*, go_sem], by simp [*, go_sem], by simp [*, go_sem], hf.ap ((k1.apk qB).few hf.top.rd.cap) ((k2.apk qB).few hf.low.rd.cap) hg, (k1.off_ap (k1.apk qB) hg).mono qB, (k2.off_ap (k2.apk qB) hg).mono qB, k1.apk qB, k2.apk qB, k1.apk qB, k2.apk qB, hap⟩, fun j hj => ?_, fun j hj => hg.cell (h.oc j hj) qL, fun j hj => (Bg hg qB qL).trans (h.of j hj), A5 _ (A5 _ (A5 _ (A5 _ h.grown h.h2) h.h2) h.h2) h.h2, h.h1, h.h2, h.h3, by simpa using h.h4⟩
 rw [← h.cf j hj]; simp [go_sem]
def ApT (k : Nat) (t : Tm) : Prop := Ap k t.n1 t.a1 ∧ Ap k t.n2 t.a2
def NwT (B : Nat) (t : Tm) : Prop := Nw B t.n1 t.a1 ∧ Nw B t.n2 t.a2
structure Fu (w : World) (B : Nat) (v : Value) (s : Nat → Tm) (out : List PT) : Prop where
 own : w.ownsRow B 68 8 v out.length (Co s out.length)
 ts : ∀ i x, out[i]? = some x → Iv (s i) x ∧ Gy w (s i) ∧ NwT B (s i) ∧ ∀ gb, v.ownBlock = some gb → ApT gb (s i)
theorem Fu.nil (w : World) (B : Nat) (s : Nat → Tm) : Fu w B (.slice none 0 0) s [] :=
 ⟨⟨rfl, .inl ⟨rfl, rfl⟩⟩, fun i x hx => by simp at hx⟩
theorem Fu.keep {w w' : World} {B : Nat} {v : Value} {s : Nat → Tm} {out : List PT} (h : Fu w B v s out) (hb : Below w.heap.size w w') : Fu w' B v s out :=
 ⟨Bm h.own hb, fun i x hx => by obtain ⟨a, b, c, d⟩ := h.ts i x hx; exact ⟨a, b.keep hb, c, d⟩⟩
theorem Gy.apT {w w' : World} {t : Tm} {row : Option Nat} (h : Gy w t) (hg : w.grownBy w' row) (ha : ∀ gb, row = some gb → ApT gb t) : Gy w' t := by
 cases row with
 | none => exact h.keep ⟨hg.os, hg.tape, hg.output, hg.size, fun k hk => hg.block k hk qH⟩
 | some gb =>
  obtain ⟨a1, a2⟩ := ha gb rfl
  exact ⟨h.top.ap a1 hg, h.low.ap a2 hg, h.s0, h.s1, h.s2, h.s3⟩
theorem Fu.add {w w' : World} {B : Nat} {v v' : Value} {s : Nat → Tm} {out : List PT} (h : Fu w B v s out) {t : Tm} {x : PT} (hx : Iv t x) (hr : Gy w t) (hn : NwT B t) (ha : ∀ gb, v.ownBlock = some gb → ApT gb t)
  (hg : w.grownBy w' v.ownBlock) (hown : w'.ownsRow B 68 8 v' (out.length + 1) (Co s out.length ++ t.cells)) (hat : v'.ownBlock = v.ownBlock ∨ v'.ownBlock = some w.heap.size) :
  Fu w' B v' (fun j => if j = out.length then t else s j) (out ++ [x]) := by
 have key : ∀ t : Tm, Gy w t → (∀ gb, v.ownBlock = some gb → ApT gb t) → ∀ gb, v'.ownBlock = some gb → ApT gb t := fun t hr ha gb hgb => by
  rcases hat with e | e
  ·exact ha gb (e ▸ hgb)
  ·rw [e] at hgb
   cases hgb
   exact ⟨hr.top.ap_of (Ad _), hr.low.ap_of (Ad _)⟩
 refine ⟨?_, fun i y hy => ?_⟩
 ·rw [List.length_append, List.length_singleton, Co, if_pos rfl, Mm (s' := s) (fun j hj => if_neg qB)]
  exact hown
 ·show Iv (if i = out.length then t else s i) y ∧ Gy w' (if i = out.length then t else s i) ∧ NwT B (if i = out.length then t else s i) ∧ _
  by_cases hi : i = out.length
  ·subst hi
   rw [List.getElem?_append_right (Ad _)] at hy
   simp only [Nat.sub_self, List.getElem?_cons_zero, Option.some.injEq] at hy
   subst hy
   rw [if_pos rfl]
   exact ⟨hx, hr.apT hg ha, hn, key t hr ha⟩
  ·have hlt : i < out.length := by
    have := (List.getElem?_eq_some_iff.1 hy).1
    simp at this
    omega
   rw [List.getElem?_append_left hlt] at hy
   obtain ⟨a, b, c, d⟩ := h.ts i y hy
   rw [if_neg hi]
   exact ⟨a, b.apT hg d, c, key _ b d⟩
theorem Fu.poly {w : World} {B : Nat} {v : Value} {s : Nat → Tm} {out : List PT} (h : Fu w B v s out) (hl : out.length ≤ 35184372088832) : ∃ a c, v = .slice a out.length c ∧ Bk w B a out.length c out := by
 rcases h.own.2 with ⟨rfl, h0⟩ | ⟨g, cap, cur, rfl, hg, hgb, hnc, hcm, hsz, htk⟩
 ·obtain rfl : out = [] := List.length_eq_zero_iff.1 h0
  exact ⟨none, 0, rfl, Bk.nil _ _⟩
 ·refine ⟨some ⟨g, 0, none⟩, cap, rfl, rfl, .inr (fun y hy => by cases hy; exact hg), fun e => (by cases e), s, ⟨hnc, hl, hcm, fun i hi => ?_, .inr ⟨g, 0, rfl, fun i hi => Lj h.own hi⟩⟩, fun i x hx => ?_⟩
  ·obtain ⟨x, hx⟩ : ∃ x, out[i]? = some x := ⟨_, Ai hi⟩
   exact (h.ts i x hx).2.1
  ·obtain ⟨a, _, c, _⟩ := h.ts i x hx
   exact ⟨a, c.1, c.2⟩
def tlA (g o c : Nat) : Addr := ⟨g, if c = 1 then o else o + 8, none⟩
theorem Ib (W : World) (g o n c : Nat) (hn : n + 1 ≤ c) : (Instr.sliceAt 23 (.slice (some ⟨g, o, none⟩) ((n + 1 : Nat)) c) (some (.int .i64 1)) none none).run Tryz.prog W = .ok (.slice (some (tlA g o c)) n (c - 1)) W := by
 have h0 : (1 : Int) ≤ (n : Int) + 1 := by omega
 unfold tlA
 by_cases hc : c = 1
 ·subst hc
  simp [Instr.sliceAt, Instr.slice, Instr.sliceBounds, Instr.sliceBound, go_sem, h0]
 ·have hc' : ¬ c = 1 := hc
  simp [Instr.sliceAt, Instr.slice, Instr.sliceBounds, Instr.sliceBound, go_sem, h0, hc']
theorem Bk.tail {w : World} {B g o n c : Nat} {x : PT} {l : List PT} (h : Bk w B (some ⟨g, o, none⟩) (n + 1) c (x :: l)) : Bk w B (some (tlA g o c)) n (c - 1) l := by
 obtain ⟨p, hp, hx⟩ := h.ts
 have hlen := h.len
 simp only [List.length_cons] at hlen
 have hcp := hp.cap
 have hfw := hp.few
 have htp := hp.top
 have hb : Qh B (some ⟨g, o, none⟩) := h.base.resolve_left qB
 refine ⟨by omega, .inr (fun y hy => ?_), fun e => (by cases e), fun i => p (i + 1), ⟨by omega, by omega, by omega, fun i hi => hp.tm _ qB, ?_⟩, fun i y hy => hx (i + 1) y (by simpa using hy)⟩
 ·cases hy
  exact hb ⟨g, o, none⟩ rfl
 ·by_cases hn : n = 0
  ·exact .inl hn
  ·refine .inr ⟨g, o + 8, by unfold tlA; rw [if_neg qB], fun i hi => ?_⟩
   have := hp.at (i := i + 1) qB
   rw [show o + 8 + i * 8 = o + (i + 1) * 8 by omega]
   exact this
theorem Bk.head {w : World} {B n c : Nat} {a : Option Addr} {x : PT} {l : List PT} (h : Bk w B a n c (x :: l)) : ∃ g o t, a = some ⟨g, o, none⟩ ∧ n = l.length + 1 ∧ l.length + 1 ≤ c ∧ H7 w g o t ∧ Gy w t ∧ Iv t x := by
 obtain ⟨p, hp, hx⟩ := h.ts
 have hlen := h.len
 simp only [List.length_cons] at hlen
 obtain ⟨g, o, rfl, hc⟩ := hp.cell.resolve_left qB
 have h0 := hc 0 qB
 simp only [Nat.zero_mul, Nat.add_zero] at h0
 exact ⟨g, o, p 0, rfl, hlen.symm, by have := hp.cap; omega, h0, hp.tm 0 qB, (hx 0 x rfl).1⟩
def Dn (m0 m1 m2 m3 : Nat) : Nat → Nat
 | 0 => m0
 | 1 => m1
 | 2 => m2
 | _ => m3
end Go.Proofs.YtdamegaedmckbaaGreatDoor
end
