/- The document's answer, layer 1: Add, Sub. -/
import Derived.Test.YtdamegaedmckbaaGreatDoorQT13
import Derived.Deep.CutBlock
import Derived.Test.YtdamegaedmckbaaGreatDoorQTZ
set_option linter.unusedSimpArgs false
set_option linter.unusedVariables false
set_option maxRecDepth 100000
set_option maxHeartbeats 4000000
section
namespace Go.Proofs.YtdamegaedmckbaaGreatDoor
open Go.RowKit
theorem cmpI_neg {x y : Int} : cmpI x y < 0 ↔ x < y := by
 unfold cmpI
 split
 ·simp_all
 ·split <;> simp_all
theorem add_same {g : Bool} {z z' : Int} (h : g = decide (z < 0)) (h' : g = decide (z' < 0)) : z + z' = sgn g (val (dg z.natAbs) + val (dg z'.natAbs)) := by
 rw [val_dg, val_dg]
 cases g
 ·have h1 : ¬ z < 0 := by simpa using h.symm
  have h2 : ¬ z' < 0 := by simpa using h'.symm
  simp [sgn]; omega
 ·have h1 : z < 0 := by simpa using h.symm
  have h2 : z' < 0 := by simpa using h'.symm
  simp [sgn]; omega
theorem add_no {g : Bool} {z z' : Int} (h : g = decide (z < 0)) (h' : (!g) = decide (z' < 0)) (hv : z'.natAbs ≤ z.natAbs) : z + z' = sgn g (val (dg z.natAbs) - val (dg z'.natAbs)) := by
 exact qCl
theorem add_sw {g : Bool} {z z' : Int} (h : g = decide (z < 0)) (h' : (!g) = decide (z' < 0)) (hv : z.natAbs < z'.natAbs) : z + z' = sgn (!g) (val (dg z'.natAbs) - val (dg z.natAbs)) := by
 exact qCl
theorem rAdd_same (w : World) (g : Bool) (a : Option Addr) (n c : Nat) (z : Int) (h : NumAt w g a n c z) (a' : Option Addr) (n' c' : Nat) (z' : Int) (h' : NumAt w g a' n' c' z') (hb1 : n < 35184372088830) (hb2 : n' < 35184372088830) :
  Calls Tryz.prog 202 #[.agg #[.bool g, .slice a n c], .agg #[.bool g, .slice a' n' c']] w (RetNum w (z + z')) := by
 have HB := Below.refl w.heap.size w
 have HR := Lib.hid (add_same h.neg h'.neg)
 go_enter Tryz.func202, Tryz.ntmps202
 go_wp2_with fail
 refine (rFit_c _ _ _ _ _ _ (h.keep qF)).mono ?_
 rintro e w1 ⟨rfl, hb⟩
 obtain ⟨hc, hf⟩ := bcell hb; have hz := hb.size; (try simp only [World.size_alloc, World.size_drew] at hz)
 replace HB := zB w hb
 obtain ⟨s0_0, s0_1⟩ := qV hc (w.heap.size) (.bool g) (.slice a n c); obtain ⟨s1_0, s1_1⟩ := qV hc (w.heap.size + 1) (.bool g) (.slice a' n' c'); obtain ⟨s2_0, s2_1⟩ := qX hc (w.heap.size + 1 + 1); obtain ⟨f2_0, f2_1⟩ := qY hf (w.heap.size + 1 + 1); obtain ⟨f0_0, f0_1⟩ := qY hf (w.heap.size); obtain ⟨f1_0, f1_1⟩ := qY hf (w.heap.size + 1)
 have hk1 : w.heap.size + 1 + 1 < w1.heap.size := by omega
 clear hc hf hb hz
 go_wp2_with fail
 refine (rFit_c _ _ _ _ _ _ (h'.keep qF)).mono ?_
 rintro e w2 ⟨rfl, hb⟩
 obtain ⟨hc, hf⟩ := bcell hb; have hz := hb.size; (try simp only [World.size_alloc, World.size_drew] at hz)
 replace HB := zB w hb
 obtain ⟨s0_0, s0_1⟩ := qV hc (w.heap.size) (.bool g) (.slice a n c); obtain ⟨s1_0, s1_1⟩ := qV hc (w.heap.size + 1) (.bool g) (.slice a' n' c'); obtain ⟨s2_0, s2_1⟩ := qX hc (w.heap.size + 1 + 1); obtain ⟨f2_0, f2_1⟩ := qY hf (w.heap.size + 1 + 1); obtain ⟨f0_0, f0_1⟩ := qY hf (w.heap.size); obtain ⟨f1_0, f1_1⟩ := qY hf (w.heap.size + 1)
 have hk2 : w.heap.size + 1 + 1 < w2.heap.size := by simp at hz; omega
 clear hc hf hb hz
 go_upto_region 4 with fail
 have HB3 : Below w.heap.size w ((w2.setCell ⟨w.heap.size + 1, 0, none⟩ (.bool g)).setCell ⟨w.heap.size + 1, 1, none⟩ (.slice a' n' c')) := by go_grown
 have hk3 : w.heap.size + 1 + 1 < ((w2.setCell ⟨w.heap.size + 1, 0, none⟩ (.bool g)).setCell ⟨w.heap.size + 1, 1, none⟩ (.slice a' n' c')).heap.size := by simp; omega
 have t0_0 : ((w2.setCell ⟨w.heap.size + 1, 0, none⟩ (.bool g)).setCell ⟨w.heap.size + 1, 1, none⟩ (.slice a' n' c')).cell? ⟨w.heap.size, 0, none⟩ = some (.bool g) := by simp [*, go_sem]
 have t0_1 : ((w2.setCell ⟨w.heap.size + 1, 0, none⟩ (.bool g)).setCell ⟨w.heap.size + 1, 1, none⟩ (.slice a' n' c')).cell? ⟨w.heap.size, 1, none⟩ = some (.slice a n c) := by simp [*, go_sem]
 have t1_0 : ((w2.setCell ⟨w.heap.size + 1, 0, none⟩ (.bool g)).setCell ⟨w.heap.size + 1, 1, none⟩ (.slice a' n' c')).cell? ⟨w.heap.size + 1, 0, none⟩ = some (.bool g) := by simp [*, go_sem]
 have t1_1 : ((w2.setCell ⟨w.heap.size + 1, 0, none⟩ (.bool g)).setCell ⟨w.heap.size + 1, 1, none⟩ (.slice a' n' c')).cell? ⟨w.heap.size + 1, 1, none⟩ = some (.slice a' n' c') := by simp [*, go_sem]
 have t2_0 : ((w2.setCell ⟨w.heap.size + 1, 0, none⟩ (.bool g)).setCell ⟨w.heap.size + 1, 1, none⟩ (.slice a' n' c')).cell? ⟨w.heap.size + 1 + 1, 0, none⟩ = some (.bool false) := by simp [*, go_sem]
 have v2_0 : ((w2.setCell ⟨w.heap.size + 1, 0, none⟩ (.bool g)).setCell ⟨w.heap.size + 1, 1, none⟩ (.slice a' n' c')).frozen? ⟨w.heap.size + 1 + 1, 0, none⟩ = false := by simp [*, go_sem]
 have t2_1 : ((w2.setCell ⟨w.heap.size + 1, 0, none⟩ (.bool g)).setCell ⟨w.heap.size + 1, 1, none⟩ (.slice a' n' c')).cell? ⟨w.heap.size + 1 + 1, 1, none⟩ = some (.slice none 0 0) := by simp [*, go_sem]
 have v2_1 : ((w2.setCell ⟨w.heap.size + 1, 0, none⟩ (.bool g)).setCell ⟨w.heap.size + 1, 1, none⟩ (.slice a' n' c')).frozen? ⟨w.heap.size + 1 + 1, 1, none⟩ = false := by simp [*, go_sem]
 generalize ((w2.setCell ⟨w.heap.size + 1, 0, none⟩ (.bool g)).setCell ⟨w.heap.size + 1, 1, none⟩ (.slice a' n' c')) = w3 at *
 clear s0_0 s0_1 s1_0 s1_1 s2_0 s2_1 f2_0 f2_1 f0_0 f0_1 f1_0 f1_1 HB
 have HB := HB3
 go_region_held3 (fun W => W.cell? ⟨w.heap.size, 0, none⟩ = some (.bool g) ∧ W.cell? ⟨w.heap.size, 1, none⟩ = some (.slice a n c) ∧ W.cell? ⟨w.heap.size + 1, 0, none⟩ = some (.bool g) ∧ W.cell? ⟨w.heap.size + 1, 1, none⟩ = some (.slice a' n' c')) (first | ((try dsimp only); (repeat' apply And.intro); all_goals (first | (with_reducible assumption) | (go_keep; done) | (simp [*, go_sem]; done)))) (first
  | (go_at_call 249; (with_reducible refine (more_c _ _ _ _ _ _ _ _ _ (h.rd.keep qF) (h'.rd.keep qF) (dg_lt _) (dg_lt _) qB qB).mono ?_); rintro e w4 ⟨a1, k1, c1, q1, rfl, hr1, hq1, hqlt, hkk, hfr1, hb⟩; obtain ⟨hc, hf⟩ := bcell hb; have hz := hb.size; (try simp only [World.size_alloc, World.size_drew, World.size_setCell] at hz); replace HB := zB w hb; obtain ⟨s0_0, s0_1⟩ := qV hc (w.heap.size) (.bool g) (.slice a n c); obtain ⟨s1_0, s1_1⟩ := qV hc (w.heap.size + 1) (.bool g) (.slice a' n' c'); obtain ⟨s2_0, s2_1⟩ := qX hc (w.heap.size + 1 + 1); obtain ⟨f2_0, f2_1⟩ := qY hf (w.heap.size + 1 + 1); have HQ1 := Lib.hid hq1; have HQL := Lib.hid hqlt; clear hq1 hqlt)
  | (go_at_call 188; (with_reducible refine (rnum_c _ g a1 k1 c1 q1 (hr1.keep qF) HQL.out).mono ?_); rintro e w5 ⟨g3, n3, rfl, hn3, hnum3, hb⟩; obtain ⟨hc, hf⟩ := bcell hb; have hz := hb.size; (try simp only [World.size_alloc, World.size_drew, World.size_setCell] at hz); replace HB := zB w hb; obtain ⟨s0_0, s0_1⟩ := qV hc (w.heap.size) (.bool g) (.slice a n c); obtain ⟨s1_0, s1_1⟩ := qV hc (w.heap.size + 1) (.bool g) (.slice a' n' c'); obtain ⟨s2_0, s2_1⟩ := qX hc (w.heap.size + 1 + 1); obtain ⟨f2_0, f2_1⟩ := qY hf (w.heap.size + 1 + 1); have hfr2 : Fresh (w.heap.size + 1 + 1 + 1) w5 a1 c1 := (hfr1.keep (Below.trans qF (hb.mono qA))).mono qS))
 exact qBf
theorem rAdd_no (w : World) (g : Bool) (a : Option Addr) (n c : Nat) (z : Int) (h : NumAt w g a n c z) (a' : Option Addr) (n' c' : Nat) (z' : Int) (h' : NumAt w (!g) a' n' c' z') (hb1 : n < 35184372088830) (hb2 : n' < 35184372088830) (hv : z'.natAbs ≤ z.natAbs) :
  Calls Tryz.prog 202 #[.agg #[.bool g, .slice a n c], .agg #[.bool (!g), .slice a' n' c']] w (RetNum w (z + z')) := by
 have HB := Below.refl w.heap.size w
 have HR := Lib.hid (add_no h.neg h'.neg hv)
 have hcm : (decide (cmpI (val (dg z.natAbs)) (val (dg z'.natAbs)) < 0)) = false := by rw [val_dg, val_dg, decide_eq_false_iff_not]; exact fun e => absurd (cmpI_neg.1 e) qB
 have hle := dg_length_mono hv
 have HCM := Lib.hid hcm
 have hnn : n' ≤ n := by have := h.rd.len; have := h'.rd.len; omega
 clear hcm hle
 have hgg : (g == !g) = false := by cases g <;> rfl
 go_enter Tryz.func202, Tryz.ntmps202
 go_wp2_with fail
 refine (rFit_c _ _ _ _ _ _ (h.keep qF)).mono ?_
 rintro e w1 ⟨rfl, hb⟩
 obtain ⟨hc, hf⟩ := bcell hb; have hz := hb.size; (try simp only [World.size_alloc, World.size_drew] at hz)
 replace HB := zB w hb
 obtain ⟨s0_0, s0_1⟩ := qV hc (w.heap.size) (.bool g) (.slice a n c); obtain ⟨s1_0, s1_1⟩ := qV hc (w.heap.size + 1) (.bool (!g)) (.slice a' n' c'); obtain ⟨s2_0, s2_1⟩ := qX hc (w.heap.size + 1 + 1); obtain ⟨f2_0, f2_1⟩ := qY hf (w.heap.size + 1 + 1); obtain ⟨f0_0, f0_1⟩ := qY hf (w.heap.size); obtain ⟨f1_0, f1_1⟩ := qY hf (w.heap.size + 1)
 have hk1 : w.heap.size + 1 + 1 < w1.heap.size := by omega
 clear hc hf hb hz
 go_wp2_with fail
 refine (rFit_c _ _ _ _ _ _ (h'.keep qF)).mono ?_
 rintro e w2 ⟨rfl, hb⟩
 obtain ⟨hc, hf⟩ := bcell hb; have hz := hb.size; (try simp only [World.size_alloc, World.size_drew] at hz)
 replace HB := zB w hb
 obtain ⟨s0_0, s0_1⟩ := qV hc (w.heap.size) (.bool g) (.slice a n c); obtain ⟨s1_0, s1_1⟩ := qV hc (w.heap.size + 1) (.bool (!g)) (.slice a' n' c'); obtain ⟨s2_0, s2_1⟩ := qX hc (w.heap.size + 1 + 1); obtain ⟨f2_0, f2_1⟩ := qY hf (w.heap.size + 1 + 1); obtain ⟨f0_0, f0_1⟩ := qY hf (w.heap.size); obtain ⟨f1_0, f1_1⟩ := qY hf (w.heap.size + 1)
 have hk2 : w.heap.size + 1 + 1 < w2.heap.size := by simp at hz; omega
 clear hc hf hb hz
 go_upto_region 5 with fail
 have HB3 : Below w.heap.size w ((w2.setCell ⟨w.heap.size + 1, 0, none⟩ (.bool (!g))).setCell ⟨w.heap.size + 1, 1, none⟩ (.slice a' n' c')) := by go_grown
 have hk3 : w.heap.size + 1 + 1 < ((w2.setCell ⟨w.heap.size + 1, 0, none⟩ (.bool (!g))).setCell ⟨w.heap.size + 1, 1, none⟩ (.slice a' n' c')).heap.size := by simp; omega
 have t0_0 : ((w2.setCell ⟨w.heap.size + 1, 0, none⟩ (.bool (!g))).setCell ⟨w.heap.size + 1, 1, none⟩ (.slice a' n' c')).cell? ⟨w.heap.size, 0, none⟩ = some (.bool g) := by simp [*, go_sem]
 have t0_1 : ((w2.setCell ⟨w.heap.size + 1, 0, none⟩ (.bool (!g))).setCell ⟨w.heap.size + 1, 1, none⟩ (.slice a' n' c')).cell? ⟨w.heap.size, 1, none⟩ = some (.slice a n c) := by simp [*, go_sem]
 have t1_0 : ((w2.setCell ⟨w.heap.size + 1, 0, none⟩ (.bool (!g))).setCell ⟨w.heap.size + 1, 1, none⟩ (.slice a' n' c')).cell? ⟨w.heap.size + 1, 0, none⟩ = some (.bool (!g)) := by simp [*, go_sem]
 have t1_1 : ((w2.setCell ⟨w.heap.size + 1, 0, none⟩ (.bool (!g))).setCell ⟨w.heap.size + 1, 1, none⟩ (.slice a' n' c')).cell? ⟨w.heap.size + 1, 1, none⟩ = some (.slice a' n' c') := by simp [*, go_sem]
 have t2_0 : ((w2.setCell ⟨w.heap.size + 1, 0, none⟩ (.bool (!g))).setCell ⟨w.heap.size + 1, 1, none⟩ (.slice a' n' c')).cell? ⟨w.heap.size + 1 + 1, 0, none⟩ = some (.bool false) := by simp [*, go_sem]
 have v2_0 : ((w2.setCell ⟨w.heap.size + 1, 0, none⟩ (.bool (!g))).setCell ⟨w.heap.size + 1, 1, none⟩ (.slice a' n' c')).frozen? ⟨w.heap.size + 1 + 1, 0, none⟩ = false := by simp [*, go_sem]
 have t2_1 : ((w2.setCell ⟨w.heap.size + 1, 0, none⟩ (.bool (!g))).setCell ⟨w.heap.size + 1, 1, none⟩ (.slice a' n' c')).cell? ⟨w.heap.size + 1 + 1, 1, none⟩ = some (.slice none 0 0) := by simp [*, go_sem]
 have v2_1 : ((w2.setCell ⟨w.heap.size + 1, 0, none⟩ (.bool (!g))).setCell ⟨w.heap.size + 1, 1, none⟩ (.slice a' n' c')).frozen? ⟨w.heap.size + 1 + 1, 1, none⟩ = false := by simp [*, go_sem]
 generalize ((w2.setCell ⟨w.heap.size + 1, 0, none⟩ (.bool (!g))).setCell ⟨w.heap.size + 1, 1, none⟩ (.slice a' n' c')) = w3 at *
 clear s0_0 s0_1 s1_0 s1_1 s2_0 s2_1 f2_0 f2_1 f0_0 f0_1 f1_0 f1_1 HB
 have HB := HB3
 go_wp2_with fail
 refine (order_c _ _ _ _ _ _ _ _ _ (h.rd.keep qF) (h'.rd.keep qF) (canon_dg _) (canon_dg _)).mono ?_
 rintro e w3 ⟨rfl, hb⟩
 obtain ⟨hc, hf⟩ := bcell hb; have hz := hb.size; (try simp only [World.size_alloc, World.size_drew] at hz)
 replace HB := zB w hb
 obtain ⟨s0_0, s0_1⟩ := qV hc (w.heap.size) (.bool g) (.slice a n c); obtain ⟨s1_0, s1_1⟩ := qV hc (w.heap.size + 1) (.bool (!g)) (.slice a' n' c'); obtain ⟨s2_0, s2_1⟩ := qX hc (w.heap.size + 1 + 1); obtain ⟨f2_0, f2_1⟩ := qY hf (w.heap.size + 1 + 1)
 have hk3 : w.heap.size + 1 + 1 < w3.heap.size := by omega
 have hcm := HCM.out
 clear hc hf hb hz
 go_upto_region 7 with fail
 clear hcm
 go_region_held3 (fun W => W.cell? ⟨w.heap.size, 0, none⟩ = some (.bool g) ∧ W.cell? ⟨w.heap.size, 1, none⟩ = some (.slice a n c) ∧ W.cell? ⟨w.heap.size + 1, 0, none⟩ = some (.bool (!g)) ∧ W.cell? ⟨w.heap.size + 1, 1, none⟩ = some (.slice a' n' c')) (first | ((try dsimp only); (repeat' apply And.intro); all_goals (first | (with_reducible assumption) | (go_keep; done) | (simp [*, go_sem]; done)))) (first
  | (go_at_call 251; (with_reducible refine (less_c _ _ _ _ _ _ _ _ _ (h.rd.keep qF) (h'.rd.keep qF) (dg_lt _) (dg_lt _) hnn (by rw [val_dg, val_dg]; exact hv)).mono ?_); rintro e w4 ⟨a1, k1, c1, q1, rfl, hr1, hq1, hqlt, hkk, hfr1, hb⟩; obtain ⟨hc, hf⟩ := bcell hb; have hz := hb.size; (try simp only [World.size_alloc, World.size_drew, World.size_setCell] at hz); replace HB := zB w hb; obtain ⟨s0_0, s0_1⟩ := qV hc (w.heap.size) (.bool g) (.slice a n c); obtain ⟨s1_0, s1_1⟩ := qV hc (w.heap.size + 1) (.bool (!g)) (.slice a' n' c'); obtain ⟨s2_0, s2_1⟩ := qX hc (w.heap.size + 1 + 1); obtain ⟨f2_0, f2_1⟩ := qY hf (w.heap.size + 1 + 1); have HQ1 := Lib.hid hq1; have HQL := Lib.hid hqlt; clear hq1 hqlt)
  | (go_at_call 188; (with_reducible refine (rnum_c _ g a1 k1 c1 q1 (hr1.keep qF) HQL.out).mono ?_); rintro e w5 ⟨g3, n3, rfl, hn3, hnum3, hb⟩; obtain ⟨hc, hf⟩ := bcell hb; have hz := hb.size; (try simp only [World.size_alloc, World.size_drew, World.size_setCell] at hz); replace HB := zB w hb; obtain ⟨s0_0, s0_1⟩ := qV hc (w.heap.size) (.bool g) (.slice a n c); obtain ⟨s1_0, s1_1⟩ := qV hc (w.heap.size + 1) (.bool (!g)) (.slice a' n' c'); obtain ⟨s2_0, s2_1⟩ := qX hc (w.heap.size + 1 + 1); obtain ⟨f2_0, f2_1⟩ := qY hf (w.heap.size + 1 + 1); have hfr2 : Fresh (w.heap.size + 1 + 1 + 1) w5 a1 c1 := (hfr1.keep (Below.trans qF (hb.mono qA))).mono qS))
 exact qBf
theorem rAdd_sw (w : World) (g : Bool) (a : Option Addr) (n c : Nat) (z : Int) (h : NumAt w g a n c z) (a' : Option Addr) (n' c' : Nat) (z' : Int) (h' : NumAt w (!g) a' n' c' z') (hb1 : n < 35184372088830) (hb2 : n' < 35184372088830) (hv : z.natAbs < z'.natAbs) :
  Calls Tryz.prog 202 #[.agg #[.bool g, .slice a n c], .agg #[.bool (!g), .slice a' n' c']] w (RetNum w (z + z')) := by
 have HB := Below.refl w.heap.size w
 have HR := Lib.hid (add_sw h.neg h'.neg hv)
 have hcm : (decide (cmpI (val (dg z.natAbs)) (val (dg z'.natAbs)) < 0)) = true := by rw [val_dg, val_dg, decide_eq_true_iff]; exact cmpI_neg.2 qB
 have hle := dg_length_mono (Nat.le_of_lt hv)
 have HCM := Lib.hid hcm
 have hnn : n ≤ n' := by have := h.rd.len; have := h'.rd.len; omega
 clear hcm hle
 have hgg : (g == !g) = false := by cases g <;> rfl
 go_enter Tryz.func202, Tryz.ntmps202
 go_wp2_with fail
 refine (rFit_c _ _ _ _ _ _ (h.keep qF)).mono ?_
 rintro e w1 ⟨rfl, hb⟩
 obtain ⟨hc, hf⟩ := bcell hb; have hz := hb.size; (try simp only [World.size_alloc, World.size_drew] at hz)
 replace HB := zB w hb
 obtain ⟨s0_0, s0_1⟩ := qV hc (w.heap.size) (.bool g) (.slice a n c); obtain ⟨s1_0, s1_1⟩ := qV hc (w.heap.size + 1) (.bool (!g)) (.slice a' n' c'); obtain ⟨s2_0, s2_1⟩ := qX hc (w.heap.size + 1 + 1); obtain ⟨f2_0, f2_1⟩ := qY hf (w.heap.size + 1 + 1); obtain ⟨f0_0, f0_1⟩ := qY hf (w.heap.size); obtain ⟨f1_0, f1_1⟩ := qY hf (w.heap.size + 1)
 have hk1 : w.heap.size + 1 + 1 < w1.heap.size := by omega
 clear hc hf hb hz
 go_wp2_with fail
 refine (rFit_c _ _ _ _ _ _ (h'.keep qF)).mono ?_
 rintro e w2 ⟨rfl, hb⟩
 obtain ⟨hc, hf⟩ := bcell hb; have hz := hb.size; (try simp only [World.size_alloc, World.size_drew] at hz)
 replace HB := zB w hb
 obtain ⟨s0_0, s0_1⟩ := qV hc (w.heap.size) (.bool g) (.slice a n c); obtain ⟨s1_0, s1_1⟩ := qV hc (w.heap.size + 1) (.bool (!g)) (.slice a' n' c'); obtain ⟨s2_0, s2_1⟩ := qX hc (w.heap.size + 1 + 1); obtain ⟨f2_0, f2_1⟩ := qY hf (w.heap.size + 1 + 1); obtain ⟨f0_0, f0_1⟩ := qY hf (w.heap.size); obtain ⟨f1_0, f1_1⟩ := qY hf (w.heap.size + 1)
 have hk2 : w.heap.size + 1 + 1 < w2.heap.size := by simp at hz; omega
 clear hc hf hb hz
 go_upto_region 5 with fail
 have HB3 : Below w.heap.size w ((w2.setCell ⟨w.heap.size + 1, 0, none⟩ (.bool (!g))).setCell ⟨w.heap.size + 1, 1, none⟩ (.slice a' n' c')) := by go_grown
 have hk3 : w.heap.size + 1 + 1 < ((w2.setCell ⟨w.heap.size + 1, 0, none⟩ (.bool (!g))).setCell ⟨w.heap.size + 1, 1, none⟩ (.slice a' n' c')).heap.size := by simp; omega
 have t0_0 : ((w2.setCell ⟨w.heap.size + 1, 0, none⟩ (.bool (!g))).setCell ⟨w.heap.size + 1, 1, none⟩ (.slice a' n' c')).cell? ⟨w.heap.size, 0, none⟩ = some (.bool g) := by simp [*, go_sem]
 have t0_1 : ((w2.setCell ⟨w.heap.size + 1, 0, none⟩ (.bool (!g))).setCell ⟨w.heap.size + 1, 1, none⟩ (.slice a' n' c')).cell? ⟨w.heap.size, 1, none⟩ = some (.slice a n c) := by simp [*, go_sem]
 have t1_0 : ((w2.setCell ⟨w.heap.size + 1, 0, none⟩ (.bool (!g))).setCell ⟨w.heap.size + 1, 1, none⟩ (.slice a' n' c')).cell? ⟨w.heap.size + 1, 0, none⟩ = some (.bool (!g)) := by simp [*, go_sem]
 have t1_1 : ((w2.setCell ⟨w.heap.size + 1, 0, none⟩ (.bool (!g))).setCell ⟨w.heap.size + 1, 1, none⟩ (.slice a' n' c')).cell? ⟨w.heap.size + 1, 1, none⟩ = some (.slice a' n' c') := by simp [*, go_sem]
 have t2_0 : ((w2.setCell ⟨w.heap.size + 1, 0, none⟩ (.bool (!g))).setCell ⟨w.heap.size + 1, 1, none⟩ (.slice a' n' c')).cell? ⟨w.heap.size + 1 + 1, 0, none⟩ = some (.bool false) := by simp [*, go_sem]
 have v2_0 : ((w2.setCell ⟨w.heap.size + 1, 0, none⟩ (.bool (!g))).setCell ⟨w.heap.size + 1, 1, none⟩ (.slice a' n' c')).frozen? ⟨w.heap.size + 1 + 1, 0, none⟩ = false := by simp [*, go_sem]
 have t2_1 : ((w2.setCell ⟨w.heap.size + 1, 0, none⟩ (.bool (!g))).setCell ⟨w.heap.size + 1, 1, none⟩ (.slice a' n' c')).cell? ⟨w.heap.size + 1 + 1, 1, none⟩ = some (.slice none 0 0) := by simp [*, go_sem]
 have v2_1 : ((w2.setCell ⟨w.heap.size + 1, 0, none⟩ (.bool (!g))).setCell ⟨w.heap.size + 1, 1, none⟩ (.slice a' n' c')).frozen? ⟨w.heap.size + 1 + 1, 1, none⟩ = false := by simp [*, go_sem]
 generalize ((w2.setCell ⟨w.heap.size + 1, 0, none⟩ (.bool (!g))).setCell ⟨w.heap.size + 1, 1, none⟩ (.slice a' n' c')) = w3 at *
 clear s0_0 s0_1 s1_0 s1_1 s2_0 s2_1 f2_0 f2_1 f0_0 f0_1 f1_0 f1_1 HB
 have HB := HB3
 go_wp2_with fail
 refine (order_c _ _ _ _ _ _ _ _ _ (h.rd.keep qF) (h'.rd.keep qF) (canon_dg _) (canon_dg _)).mono ?_
 rintro e w3 ⟨rfl, hb⟩
 obtain ⟨hc, hf⟩ := bcell hb; have hz := hb.size; (try simp only [World.size_alloc, World.size_drew] at hz)
 replace HB := zB w hb
 obtain ⟨s0_0, s0_1⟩ := qV hc (w.heap.size) (.bool g) (.slice a n c); obtain ⟨s1_0, s1_1⟩ := qV hc (w.heap.size + 1) (.bool (!g)) (.slice a' n' c'); obtain ⟨s2_0, s2_1⟩ := qX hc (w.heap.size + 1 + 1); obtain ⟨f2_0, f2_1⟩ := qY hf (w.heap.size + 1 + 1)
 have hk3 : w.heap.size + 1 + 1 < w3.heap.size := by omega
 have hcm := HCM.out
 clear hc hf hb hz
 go_upto_region 6 with fail
 clear hcm
 go_region_held3 (fun W => W.cell? ⟨w.heap.size, 0, none⟩ = some (.bool g) ∧ W.cell? ⟨w.heap.size, 1, none⟩ = some (.slice a n c) ∧ W.cell? ⟨w.heap.size + 1, 0, none⟩ = some (.bool (!g)) ∧ W.cell? ⟨w.heap.size + 1, 1, none⟩ = some (.slice a' n' c')) (first | ((try dsimp only); (repeat' apply And.intro); all_goals (first | (with_reducible assumption) | (go_keep; done) | (simp [*, go_sem]; done)))) (first
  | (go_at_call 251; (with_reducible refine (less_c _ _ _ _ _ _ _ _ _ (h'.rd.keep qF) (h.rd.keep qF) (dg_lt _) (dg_lt _) hnn (by rw [val_dg, val_dg]; exact Nat.le_of_lt hv)).mono ?_); rintro e w4 ⟨a1, k1, c1, q1, rfl, hr1, hq1, hqlt, hkk, hfr1, hb⟩; obtain ⟨hc, hf⟩ := bcell hb; have hz := hb.size; (try simp only [World.size_alloc, World.size_drew, World.size_setCell] at hz); replace HB := zB w hb; obtain ⟨s0_0, s0_1⟩ := qV hc (w.heap.size) (.bool g) (.slice a n c); obtain ⟨s1_0, s1_1⟩ := qV hc (w.heap.size + 1) (.bool (!g)) (.slice a' n' c'); obtain ⟨s2_0, s2_1⟩ := qX hc (w.heap.size + 1 + 1); obtain ⟨f2_0, f2_1⟩ := qY hf (w.heap.size + 1 + 1); have HQ1 := Lib.hid hq1; have HQL := Lib.hid hqlt; clear hq1 hqlt)
  | (go_at_call 188; (with_reducible refine (rnum_c _ (!g) a1 k1 c1 q1 (hr1.keep qF) HQL.out).mono ?_); rintro e w5 ⟨g3, n3, rfl, hn3, hnum3, hb⟩; obtain ⟨hc, hf⟩ := bcell hb; have hz := hb.size; (try simp only [World.size_alloc, World.size_drew, World.size_setCell] at hz); replace HB := zB w hb; obtain ⟨s0_0, s0_1⟩ := qV hc (w.heap.size) (.bool g) (.slice a n c); obtain ⟨s1_0, s1_1⟩ := qV hc (w.heap.size + 1) (.bool (!g)) (.slice a' n' c'); obtain ⟨s2_0, s2_1⟩ := qX hc (w.heap.size + 1 + 1); obtain ⟨f2_0, f2_1⟩ := qY hf (w.heap.size + 1 + 1); have hfr2 : Fresh (w.heap.size + 1 + 1 + 1) w5 a1 c1 := (hfr1.keep (Below.trans qF (hb.mono qA))).mono qS))
 exact qBf
theorem rAdd_c (w : World) (g : Bool) (a : Option Addr) (n c : Nat) (z : Int) (h : NumAt w g a n c z) (g' : Bool) (a' : Option Addr) (n' c' : Nat) (z' : Int) (h' : NumAt w g' a' n' c' z') (hb1 : n < 35184372088830) (hb2 : n' < 35184372088830) :
  Calls Tryz.prog 202 #[.agg #[.bool g, .slice a n c], .agg #[.bool g', .slice a' n' c']] w (RetNum w (z + z')) := by
 by_cases hg : g = g'
 ·subst hg
  exact rAdd_same w g a n c z h a' n' c' z' h' hb1 hb2
 ·obtain rfl : g' = !g := by cases g <;> cases g' <;> simp_all
  rcases Nat.lt_or_ge z.natAbs z'.natAbs with hv | hv
  ·exact rAdd_sw w g a n c z h a' n' c' z' h' hb1 hb2 hv
  ·exact rAdd_no w g a n c z h a' n' c' z' h' hb1 hb2 hv
end Go.Proofs.YtdamegaedmckbaaGreatDoor
end
