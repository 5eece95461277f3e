/- The document's answer, layer 1: Add, Sub. -/
import Derived.Test.YtdamegaedmckbaaGreatDoorQP11
set_option linter.unusedSimpArgs false
set_option linter.unusedVariables false
set_option maxRecDepth 100000
set_option maxHeartbeats 4000000
section
namespace Go.Proofs.YtdamegaedmckbaaGreatDoor
open Go.RowKit
theorem Rb {x y : Int} : Br x y < 0 ↔ x < y := by
 unfold Br
 split
 ·simp_all
 ·split <;> simp_all
theorem Yw {g : Bool} {z z' : Int} (h : g = decide (z < 0)) (h' : g = decide (z' < 0)) : z + z' = sgn g (val (dg z.natAbs) + val (dg z'.natAbs)) := by
 rw [Ba, Ba]
 cases g
 ·have h1 : ¬ z < 0 := by simpa using h.symm
  have h2 : ¬ z' < 0 := by simpa using h'.symm
  simp [sgn]; omega
 ·have h1 : z < 0 := by simpa using h.symm
  have h2 : z' < 0 := by simpa using h'.symm
  simp [sgn]; omega
theorem fK {g : Bool} {z z' : Int} (h : g = decide (z < 0)) (h' : (!g) = decide (z' < 0)) (hv : z'.natAbs ≤ z.natAbs) : z + z' = sgn g (val (dg z.natAbs) - val (dg z'.natAbs)) := by
 exact qCs
theorem fO {g : Bool} {z z' : Int} (h : g = decide (z < 0)) (h' : (!g) = decide (z' < 0)) (hv : z.natAbs < z'.natAbs) : z + z' = sgn (!g) (val (dg z'.natAbs) - val (dg z.natAbs)) := by
 exact qCs
theorem Wt (w : World) (g : Bool) (a : Option Addr) (n c : Nat) (z : Int) (h : A4 w g a n c z) (a' : Option Addr) (n' c' : Nat) (z' : Int) (h' : A4 w g a' n' c' z') (hb1 : n < 35184372088830) (hb2 : n' < 35184372088830) :
  Calls Tryz.prog 202 #[.agg #[.bool g, .slice a n c], .agg #[.bool g, .slice a' n' c']] w (C4 w (z + z')) := by
 have HB := Ac w.heap.size w
 have HR := Ae (Yw h.neg h'.neg)
 go_enter Tryz.func202, Tryz.ntmps202
 go_wp2_with fail
 refine (Fq _ _ _ _ _ _ (h.keep qF)).mono ?_
 rintro e w1 ⟨rfl, hb⟩
 obtain ⟨hc, hf⟩ := Ax hb; have hz := hb.size; (try simp only [Aj, Ak] at hz)
 replace HB := zD w hb
 obtain ⟨s0_0, s0_1⟩ := qX hc (w.heap.size) (.bool g) (.slice a n c); obtain ⟨s1_0, s1_1⟩ := qX hc (w.heap.size + 1) (.bool g) (.slice a' n' c'); obtain ⟨s2_0, s2_1⟩ := qZ hc (w.heap.size + 1 + 1); obtain ⟨f2_0, f2_1⟩ := zA hf (w.heap.size + 1 + 1); obtain ⟨f0_0, f0_1⟩ := zA hf (w.heap.size); obtain ⟨f1_0, f1_1⟩ := zA hf (w.heap.size + 1)
 have hk1 : w.heap.size + 1 + 1 < w1.heap.size := by omega
 clear hc hf hb hz
 go_wp2_with fail
 refine (Fq _ _ _ _ _ _ (h'.keep qF)).mono ?_
 rintro e w2 ⟨rfl, hb⟩
 obtain ⟨hc, hf⟩ := Ax hb; have hz := hb.size; (try simp only [Aj, Ak] at hz)
 replace HB := zD w hb
 obtain ⟨s0_0, s0_1⟩ := qX hc (w.heap.size) (.bool g) (.slice a n c); obtain ⟨s1_0, s1_1⟩ := qX hc (w.heap.size + 1) (.bool g) (.slice a' n' c'); obtain ⟨s2_0, s2_1⟩ := qZ hc (w.heap.size + 1 + 1); obtain ⟨f2_0, f2_1⟩ := zA hf (w.heap.size + 1 + 1); obtain ⟨f0_0, f0_1⟩ := zA hf (w.heap.size); obtain ⟨f1_0, f1_1⟩ := zA hf (w.heap.size + 1)
 have hk2 : w.heap.size + 1 + 1 < w2.heap.size := by simp at hz; omega
 clear hc hf hb hz
 go_upto_region 4 with fail
 have HB3 : Below w.heap.size w ((w2.setCell ⟨w.heap.size + 1, 0, none⟩ (.bool g)).setCell ⟨w.heap.size + 1, 1, none⟩ (.slice a' n' c')) := by go_grown
 have hk3 : w.heap.size + 1 + 1 < ((w2.setCell ⟨w.heap.size + 1, 0, none⟩ (.bool g)).setCell ⟨w.heap.size + 1, 1, none⟩ (.slice a' n' c')).heap.size := by simp; omega
 have t0_0 : ((w2.setCell ⟨w.heap.size + 1, 0, none⟩ (.bool g)).setCell ⟨w.heap.size + 1, 1, none⟩ (.slice a' n' c')).cell? ⟨w.heap.size, 0, none⟩ = some (.bool g) := by simp [*, go_sem]
 have t0_1 : ((w2.setCell ⟨w.heap.size + 1, 0, none⟩ (.bool g)).setCell ⟨w.heap.size + 1, 1, none⟩ (.slice a' n' c')).cell? ⟨w.heap.size, 1, none⟩ = some (.slice a n c) := by simp [*, go_sem]
 have t1_0 : ((w2.setCell ⟨w.heap.size + 1, 0, none⟩ (.bool g)).setCell ⟨w.heap.size + 1, 1, none⟩ (.slice a' n' c')).cell? ⟨w.heap.size + 1, 0, none⟩ = some (.bool g) := by simp [*, go_sem]
 have t1_1 : ((w2.setCell ⟨w.heap.size + 1, 0, none⟩ (.bool g)).setCell ⟨w.heap.size + 1, 1, none⟩ (.slice a' n' c')).cell? ⟨w.heap.size + 1, 1, none⟩ = some (.slice a' n' c') := by simp [*, go_sem]
 have t2_0 : ((w2.setCell ⟨w.heap.size + 1, 0, none⟩ (.bool g)).setCell ⟨w.heap.size + 1, 1, none⟩ (.slice a' n' c')).cell? ⟨w.heap.size + 1 + 1, 0, none⟩ = some (.bool false) := by simp [*, go_sem]
 have v2_0 : ((w2.setCell ⟨w.heap.size + 1, 0, none⟩ (.bool g)).setCell ⟨w.heap.size + 1, 1, none⟩ (.slice a' n' c')).frozen? ⟨w.heap.size + 1 + 1, 0, none⟩ = false := by simp [*, go_sem]
 have t2_1 : ((w2.setCell ⟨w.heap.size + 1, 0, none⟩ (.bool g)).setCell ⟨w.heap.size + 1, 1, none⟩ (.slice a' n' c')).cell? ⟨w.heap.size + 1 + 1, 1, none⟩ = some (.slice none 0 0) := by simp [*, go_sem]
 have v2_1 : ((w2.setCell ⟨w.heap.size + 1, 0, none⟩ (.bool g)).setCell ⟨w.heap.size + 1, 1, none⟩ (.slice a' n' c')).frozen? ⟨w.heap.size + 1 + 1, 1, none⟩ = false := by simp [*, go_sem]
 generalize ((w2.setCell ⟨w.heap.size + 1, 0, none⟩ (.bool g)).setCell ⟨w.heap.size + 1, 1, none⟩ (.slice a' n' c')) = w3 at *
 clear s0_0 s0_1 s1_0 s1_1 s2_0 s2_1 f2_0 f2_1 f0_0 f0_1 f1_0 f1_1 HB
 have HB := HB3
 go_region_held3 (fun W => W.cell? ⟨w.heap.size, 0, none⟩ = some (.bool g) ∧ W.cell? ⟨w.heap.size, 1, none⟩ = some (.slice a n c) ∧ W.cell? ⟨w.heap.size + 1, 0, none⟩ = some (.bool g) ∧ W.cell? ⟨w.heap.size + 1, 1, none⟩ = some (.slice a' n' c')) (first | ((try dsimp only); (repeat' apply And.intro); all_goals (first | (with_reducible assumption) | (go_keep; done) | (simp [*, go_sem]; done)))) (first
  | (go_at_call 249; (with_reducible refine (eO _ _ _ _ _ _ _ _ _ (h.rd.keep qF) (h'.rd.keep qF) (Dj _) (Dj _) qB qB).mono ?_); rintro e w4 ⟨a1, k1, c1, q1, rfl, hr1, hq1, hqlt, hkk, hfr1, hb⟩; obtain ⟨hc, hf⟩ := Ax hb; have hz := hb.size; (try simp only [Aj, Ak, Am] at hz); replace HB := zD w hb; obtain ⟨s0_0, s0_1⟩ := qX hc (w.heap.size) (.bool g) (.slice a n c); obtain ⟨s1_0, s1_1⟩ := qX hc (w.heap.size + 1) (.bool g) (.slice a' n' c'); obtain ⟨s2_0, s2_1⟩ := qZ hc (w.heap.size + 1 + 1); obtain ⟨f2_0, f2_1⟩ := zA hf (w.heap.size + 1 + 1); have HQ1 := Ae hq1; have HQL := Ae hqlt; clear hq1 hqlt)
  | (go_at_call 188; (with_reducible refine (Fb _ g a1 k1 c1 q1 (hr1.keep qF) HQL.out).mono ?_); rintro e w5 ⟨g3, n3, rfl, hn3, hnum3, hb⟩; obtain ⟨hc, hf⟩ := Ax hb; have hz := hb.size; (try simp only [Aj, Ak, Am] at hz); replace HB := zD w hb; obtain ⟨s0_0, s0_1⟩ := qX hc (w.heap.size) (.bool g) (.slice a n c); obtain ⟨s1_0, s1_1⟩ := qX hc (w.heap.size + 1) (.bool g) (.slice a' n' c'); obtain ⟨s2_0, s2_1⟩ := qZ hc (w.heap.size + 1 + 1); obtain ⟨f2_0, f2_1⟩ := zA hf (w.heap.size + 1 + 1); have hfr2 : Av (w.heap.size + 1 + 1 + 1) w5 a1 c1 := (hfr1.keep (Al qF (hb.mono qA))).mono qS))
 exact qBf
theorem dB (w : World) (g : Bool) (a : Option Addr) (n c : Nat) (z : Int) (h : A4 w g a n c z) (a' : Option Addr) (n' c' : Nat) (z' : Int) (h' : A4 w (!g) a' n' c' z') (hb1 : n < 35184372088830) (hb2 : n' < 35184372088830) (hv : z'.natAbs ≤ z.natAbs) :
  Calls Tryz.prog 202 #[.agg #[.bool g, .slice a n c], .agg #[.bool (!g), .slice a' n' c']] w (C4 w (z + z')) := by
 have HB := Ac w.heap.size w
 have HR := Ae (fK h.neg h'.neg hv)
 have hcm : (decide (Br (val (dg z.natAbs)) (val (dg z'.natAbs)) < 0)) = false := by rw [Ba, Ba, decide_eq_false_iff_not]; exact fun e => absurd (Rb.1 e) qB
 have hle := Be hv
 have HCM := Ae hcm
 have hnn : n' ≤ n := by have := h.rd.len; have := h'.rd.len; omega
 clear hcm hle
 have hgg : (g == !g) = false := by cases g <;> rfl
 go_enter Tryz.func202, Tryz.ntmps202
 go_wp2_with fail
 refine (Fq _ _ _ _ _ _ (h.keep qF)).mono ?_
 rintro e w1 ⟨rfl, hb⟩
 obtain ⟨hc, hf⟩ := Ax hb; have hz := hb.size; (try simp only [Aj, Ak] at hz)
 replace HB := zD w hb
 obtain ⟨s0_0, s0_1⟩ := qX hc (w.heap.size) (.bool g) (.slice a n c); obtain ⟨s1_0, s1_1⟩ := qX hc (w.heap.size + 1) (.bool (!g)) (.slice a' n' c'); obtain ⟨s2_0, s2_1⟩ := qZ hc (w.heap.size + 1 + 1); obtain ⟨f2_0, f2_1⟩ := zA hf (w.heap.size + 1 + 1); obtain ⟨f0_0, f0_1⟩ := zA hf (w.heap.size); obtain ⟨f1_0, f1_1⟩ := zA hf (w.heap.size + 1)
 have hk1 : w.heap.size + 1 + 1 < w1.heap.size := by omega
 clear hc hf hb hz
 go_wp2_with fail
 refine (Fq _ _ _ _ _ _ (h'.keep qF)).mono ?_
 rintro e w2 ⟨rfl, hb⟩
 obtain ⟨hc, hf⟩ := Ax hb; have hz := hb.size; (try simp only [Aj, Ak] at hz)
 replace HB := zD w hb
 obtain ⟨s0_0, s0_1⟩ := qX hc (w.heap.size) (.bool g) (.slice a n c); obtain ⟨s1_0, s1_1⟩ := qX hc (w.heap.size + 1) (.bool (!g)) (.slice a' n' c'); obtain ⟨s2_0, s2_1⟩ := qZ hc (w.heap.size + 1 + 1); obtain ⟨f2_0, f2_1⟩ := zA hf (w.heap.size + 1 + 1); obtain ⟨f0_0, f0_1⟩ := zA hf (w.heap.size); obtain ⟨f1_0, f1_1⟩ := zA hf (w.heap.size + 1)
 have hk2 : w.heap.size + 1 + 1 < w2.heap.size := by simp at hz; omega
 clear hc hf hb hz
 go_upto_region 5 with fail
 have HB3 : Below w.heap.size w ((w2.setCell ⟨w.heap.size + 1, 0, none⟩ (.bool (!g))).setCell ⟨w.heap.size + 1, 1, none⟩ (.slice a' n' c')) := by go_grown
 have hk3 : w.heap.size + 1 + 1 < ((w2.setCell ⟨w.heap.size + 1, 0, none⟩ (.bool (!g))).setCell ⟨w.heap.size + 1, 1, none⟩ (.slice a' n' c')).heap.size := by simp; omega
 have t0_0 : ((w2.setCell ⟨w.heap.size + 1, 0, none⟩ (.bool (!g))).setCell ⟨w.heap.size + 1, 1, none⟩ (.slice a' n' c')).cell? ⟨w.heap.size, 0, none⟩ = some (.bool g) := by simp [*, go_sem]
 have t0_1 : ((w2.setCell ⟨w.heap.size + 1, 0, none⟩ (.bool (!g))).setCell ⟨w.heap.size + 1, 1, none⟩ (.slice a' n' c')).cell? ⟨w.heap.size, 1, none⟩ = some (.slice a n c) := by simp [*, go_sem]
 have t1_0 : ((w2.setCell ⟨w.heap.size + 1, 0, none⟩ (.bool (!g))).setCell ⟨w.heap.size + 1, 1, none⟩ (.slice a' n' c')).cell? ⟨w.heap.size + 1, 0, none⟩ = some (.bool (!g)) := by simp [*, go_sem]
 have t1_1 : ((w2.setCell ⟨w.heap.size + 1, 0, none⟩ (.bool (!g))).setCell ⟨w.heap.size + 1, 1, none⟩ (.slice a' n' c')).cell? ⟨w.heap.size + 1, 1, none⟩ = some (.slice a' n' c') := by simp [*, go_sem]
 have t2_0 : ((w2.setCell ⟨w.heap.size + 1, 0, none⟩ (.bool (!g))).setCell ⟨w.heap.size + 1, 1, none⟩ (.slice a' n' c')).cell? ⟨w.heap.size + 1 + 1, 0, none⟩ = some (.bool false) := by simp [*, go_sem]
 have v2_0 : ((w2.setCell ⟨w.heap.size + 1, 0, none⟩ (.bool (!g))).setCell ⟨w.heap.size + 1, 1, none⟩ (.slice a' n' c')).frozen? ⟨w.heap.size + 1 + 1, 0, none⟩ = false := by simp [*, go_sem]
 have t2_1 : ((w2.setCell ⟨w.heap.size + 1, 0, none⟩ (.bool (!g))).setCell ⟨w.heap.size + 1, 1, none⟩ (.slice a' n' c')).cell? ⟨w.heap.size + 1 + 1, 1, none⟩ = some (.slice none 0 0) := by simp [*, go_sem]
 have v2_1 : ((w2.setCell ⟨w.heap.size + 1, 0, none⟩ (.bool (!g))).setCell ⟨w.heap.size + 1, 1, none⟩ (.slice a' n' c')).frozen? ⟨w.heap.size + 1 + 1, 1, none⟩ = false := by simp [*, go_sem]
 generalize ((w2.setCell ⟨w.heap.size + 1, 0, none⟩ (.bool (!g))).setCell ⟨w.heap.size + 1, 1, none⟩ (.slice a' n' c')) = w3 at *
 clear s0_0 s0_1 s1_0 s1_1 s2_0 s2_1 f2_0 f2_1 f0_0 f0_1 f1_0 f1_1 HB
 have HB := HB3
 go_wp2_with fail
 refine (Q0 _ _ _ _ _ _ _ _ _ (h.rd.keep qF) (h'.rd.keep qF) (Bp _) (Bp _)).mono ?_
 rintro e w3 ⟨rfl, hb⟩
 obtain ⟨hc, hf⟩ := Ax hb; have hz := hb.size; (try simp only [Aj, Ak] at hz)
 replace HB := zD w hb
 obtain ⟨s0_0, s0_1⟩ := qX hc (w.heap.size) (.bool g) (.slice a n c); obtain ⟨s1_0, s1_1⟩ := qX hc (w.heap.size + 1) (.bool (!g)) (.slice a' n' c'); obtain ⟨s2_0, s2_1⟩ := qZ hc (w.heap.size + 1 + 1); obtain ⟨f2_0, f2_1⟩ := zA hf (w.heap.size + 1 + 1)
 have hk3 : w.heap.size + 1 + 1 < w3.heap.size := by omega
 have hcm := HCM.out
 clear hc hf hb hz
 go_upto_region 7 with fail
 clear hcm
 go_region_held3 (fun W => W.cell? ⟨w.heap.size, 0, none⟩ = some (.bool g) ∧ W.cell? ⟨w.heap.size, 1, none⟩ = some (.slice a n c) ∧ W.cell? ⟨w.heap.size + 1, 0, none⟩ = some (.bool (!g)) ∧ W.cell? ⟨w.heap.size + 1, 1, none⟩ = some (.slice a' n' c')) (first | ((try dsimp only); (repeat' apply And.intro); all_goals (first | (with_reducible assumption) | (go_keep; done) | (simp [*, go_sem]; done)))) (first
  | (go_at_call 251; (with_reducible refine (Ze _ _ _ _ _ _ _ _ _ (h.rd.keep qF) (h'.rd.keep qF) (Dj _) (Dj _) hnn (by rw [Ba, Ba]; exact hv)).mono ?_); rintro e w4 ⟨a1, k1, c1, q1, rfl, hr1, hq1, hqlt, hkk, hfr1, hb⟩; obtain ⟨hc, hf⟩ := Ax hb; have hz := hb.size; (try simp only [Aj, Ak, Am] at hz); replace HB := zD w hb; obtain ⟨s0_0, s0_1⟩ := qX hc (w.heap.size) (.bool g) (.slice a n c); obtain ⟨s1_0, s1_1⟩ := qX hc (w.heap.size + 1) (.bool (!g)) (.slice a' n' c'); obtain ⟨s2_0, s2_1⟩ := qZ hc (w.heap.size + 1 + 1); obtain ⟨f2_0, f2_1⟩ := zA hf (w.heap.size + 1 + 1); have HQ1 := Ae hq1; have HQL := Ae hqlt; clear hq1 hqlt)
  | (go_at_call 188; (with_reducible refine (Fb _ g a1 k1 c1 q1 (hr1.keep qF) HQL.out).mono ?_); rintro e w5 ⟨g3, n3, rfl, hn3, hnum3, hb⟩; obtain ⟨hc, hf⟩ := Ax hb; have hz := hb.size; (try simp only [Aj, Ak, Am] at hz); replace HB := zD w hb; obtain ⟨s0_0, s0_1⟩ := qX hc (w.heap.size) (.bool g) (.slice a n c); obtain ⟨s1_0, s1_1⟩ := qX hc (w.heap.size + 1) (.bool (!g)) (.slice a' n' c'); obtain ⟨s2_0, s2_1⟩ := qZ hc (w.heap.size + 1 + 1); obtain ⟨f2_0, f2_1⟩ := zA hf (w.heap.size + 1 + 1); have hfr2 : Av (w.heap.size + 1 + 1 + 1) w5 a1 c1 := (hfr1.keep (Al qF (hb.mono qA))).mono qS))
 exact qBf
theorem cD (w : World) (g : Bool) (a : Option Addr) (n c : Nat) (z : Int) (h : A4 w g a n c z) (a' : Option Addr) (n' c' : Nat) (z' : Int) (h' : A4 w (!g) a' n' c' z') (hb1 : n < 35184372088830) (hb2 : n' < 35184372088830) (hv : z.natAbs < z'.natAbs) :
  Calls Tryz.prog 202 #[.agg #[.bool g, .slice a n c], .agg #[.bool (!g), .slice a' n' c']] w (C4 w (z + z')) := by
 have HB := Ac w.heap.size w
 have HR := Ae (fO h.neg h'.neg hv)
 have hcm : (decide (Br (val (dg z.natAbs)) (val (dg z'.natAbs)) < 0)) = true := by rw [Ba, Ba, decide_eq_true_iff]; exact Rb.2 qB
 have hle := Be (Nat.le_of_lt hv)
 have HCM := Ae hcm
 have hnn : n ≤ n' := by have := h.rd.len; have := h'.rd.len; omega
 clear hcm hle
 have hgg : (g == !g) = false := by cases g <;> rfl
 go_enter Tryz.func202, Tryz.ntmps202
 go_wp2_with fail
 refine (Fq _ _ _ _ _ _ (h.keep qF)).mono ?_
 rintro e w1 ⟨rfl, hb⟩
 obtain ⟨hc, hf⟩ := Ax hb; have hz := hb.size; (try simp only [Aj, Ak] at hz)
 replace HB := zD w hb
 obtain ⟨s0_0, s0_1⟩ := qX hc (w.heap.size) (.bool g) (.slice a n c); obtain ⟨s1_0, s1_1⟩ := qX hc (w.heap.size + 1) (.bool (!g)) (.slice a' n' c'); obtain ⟨s2_0, s2_1⟩ := qZ hc (w.heap.size + 1 + 1); obtain ⟨f2_0, f2_1⟩ := zA hf (w.heap.size + 1 + 1); obtain ⟨f0_0, f0_1⟩ := zA hf (w.heap.size); obtain ⟨f1_0, f1_1⟩ := zA hf (w.heap.size + 1)
 have hk1 : w.heap.size + 1 + 1 < w1.heap.size := by omega
 clear hc hf hb hz
 go_wp2_with fail
 refine (Fq _ _ _ _ _ _ (h'.keep qF)).mono ?_
 rintro e w2 ⟨rfl, hb⟩
 obtain ⟨hc, hf⟩ := Ax hb; have hz := hb.size; (try simp only [Aj, Ak] at hz)
 replace HB := zD w hb
 obtain ⟨s0_0, s0_1⟩ := qX hc (w.heap.size) (.bool g) (.slice a n c); obtain ⟨s1_0, s1_1⟩ := qX hc (w.heap.size + 1) (.bool (!g)) (.slice a' n' c'); obtain ⟨s2_0, s2_1⟩ := qZ hc (w.heap.size + 1 + 1); obtain ⟨f2_0, f2_1⟩ := zA hf (w.heap.size + 1 + 1); obtain ⟨f0_0, f0_1⟩ := zA hf (w.heap.size); obtain ⟨f1_0, f1_1⟩ := zA hf (w.heap.size + 1)
 have hk2 : w.heap.size + 1 + 1 < w2.heap.size := by simp at hz; omega
 clear hc hf hb hz
 go_upto_region 5 with fail
 have HB3 : Below w.heap.size w ((w2.setCell ⟨w.heap.size + 1, 0, none⟩ (.bool (!g))).setCell ⟨w.heap.size + 1, 1, none⟩ (.slice a' n' c')) := by go_grown
 have hk3 : w.heap.size + 1 + 1 < ((w2.setCell ⟨w.heap.size + 1, 0, none⟩ (.bool (!g))).setCell ⟨w.heap.size + 1, 1, none⟩ (.slice a' n' c')).heap.size := by simp; omega
 have t0_0 : ((w2.setCell ⟨w.heap.size + 1, 0, none⟩ (.bool (!g))).setCell ⟨w.heap.size + 1, 1, none⟩ (.slice a' n' c')).cell? ⟨w.heap.size, 0, none⟩ = some (.bool g) := by simp [*, go_sem]
 have t0_1 : ((w2.setCell ⟨w.heap.size + 1, 0, none⟩ (.bool (!g))).setCell ⟨w.heap.size + 1, 1, none⟩ (.slice a' n' c')).cell? ⟨w.heap.size, 1, none⟩ = some (.slice a n c) := by simp [*, go_sem]
 have t1_0 : ((w2.setCell ⟨w.heap.size + 1, 0, none⟩ (.bool (!g))).setCell ⟨w.heap.size + 1, 1, none⟩ (.slice a' n' c')).cell? ⟨w.heap.size + 1, 0, none⟩ = some (.bool (!g)) := by simp [*, go_sem]
 have t1_1 : ((w2.setCell ⟨w.heap.size + 1, 0, none⟩ (.bool (!g))).setCell ⟨w.heap.size + 1, 1, none⟩ (.slice a' n' c')).cell? ⟨w.heap.size + 1, 1, none⟩ = some (.slice a' n' c') := by simp [*, go_sem]
 have t2_0 : ((w2.setCell ⟨w.heap.size + 1, 0, none⟩ (.bool (!g))).setCell ⟨w.heap.size + 1, 1, none⟩ (.slice a' n' c')).cell? ⟨w.heap.size + 1 + 1, 0, none⟩ = some (.bool false) := by simp [*, go_sem]
 have v2_0 : ((w2.setCell ⟨w.heap.size + 1, 0, none⟩ (.bool (!g))).setCell ⟨w.heap.size + 1, 1, none⟩ (.slice a' n' c')).frozen? ⟨w.heap.size + 1 + 1, 0, none⟩ = false := by simp [*, go_sem]
 have t2_1 : ((w2.setCell ⟨w.heap.size + 1, 0, none⟩ (.bool (!g))).setCell ⟨w.heap.size + 1, 1, none⟩ (.slice a' n' c')).cell? ⟨w.heap.size + 1 + 1, 1, none⟩ = some (.slice none 0 0) := by simp [*, go_sem]
 have v2_1 : ((w2.setCell ⟨w.heap.size + 1, 0, none⟩ (.bool (!g))).setCell ⟨w.heap.size + 1, 1, none⟩ (.slice a' n' c')).frozen? ⟨w.heap.size + 1 + 1, 1, none⟩ = false := by simp [*, go_sem]
 generalize ((w2.setCell ⟨w.heap.size + 1, 0, none⟩ (.bool (!g))).setCell ⟨w.heap.size + 1, 1, none⟩ (.slice a' n' c')) = w3 at *
 clear s0_0 s0_1 s1_0 s1_1 s2_0 s2_1 f2_0 f2_1 f0_0 f0_1 f1_0 f1_1 HB
 have HB := HB3
 go_wp2_with fail
 refine (Q0 _ _ _ _ _ _ _ _ _ (h.rd.keep qF) (h'.rd.keep qF) (Bp _) (Bp _)).mono ?_
 rintro e w3 ⟨rfl, hb⟩
 obtain ⟨hc, hf⟩ := Ax hb; have hz := hb.size; (try simp only [Aj, Ak] at hz)
 replace HB := zD w hb
 obtain ⟨s0_0, s0_1⟩ := qX hc (w.heap.size) (.bool g) (.slice a n c); obtain ⟨s1_0, s1_1⟩ := qX hc (w.heap.size + 1) (.bool (!g)) (.slice a' n' c'); obtain ⟨s2_0, s2_1⟩ := qZ hc (w.heap.size + 1 + 1); obtain ⟨f2_0, f2_1⟩ := zA hf (w.heap.size + 1 + 1)
 have hk3 : w.heap.size + 1 + 1 < w3.heap.size := by omega
 have hcm := HCM.out
 clear hc hf hb hz
 go_upto_region 6 with fail
 clear hcm
 go_region_held3 (fun W => W.cell? ⟨w.heap.size, 0, none⟩ = some (.bool g) ∧ W.cell? ⟨w.heap.size, 1, none⟩ = some (.slice a n c) ∧ W.cell? ⟨w.heap.size + 1, 0, none⟩ = some (.bool (!g)) ∧ W.cell? ⟨w.heap.size + 1, 1, none⟩ = some (.slice a' n' c')) (first | ((try dsimp only); (repeat' apply And.intro); all_goals (first | (with_reducible assumption) | (go_keep; done) | (simp [*, go_sem]; done)))) (first
  | (go_at_call 251; (with_reducible refine (Ze _ _ _ _ _ _ _ _ _ (h'.rd.keep qF) (h.rd.keep qF) (Dj _) (Dj _) hnn (by rw [Ba, Ba]; exact Nat.le_of_lt hv)).mono ?_); rintro e w4 ⟨a1, k1, c1, q1, rfl, hr1, hq1, hqlt, hkk, hfr1, hb⟩; obtain ⟨hc, hf⟩ := Ax hb; have hz := hb.size; (try simp only [Aj, Ak, Am] at hz); replace HB := zD w hb; obtain ⟨s0_0, s0_1⟩ := qX hc (w.heap.size) (.bool g) (.slice a n c); obtain ⟨s1_0, s1_1⟩ := qX hc (w.heap.size + 1) (.bool (!g)) (.slice a' n' c'); obtain ⟨s2_0, s2_1⟩ := qZ hc (w.heap.size + 1 + 1); obtain ⟨f2_0, f2_1⟩ := zA hf (w.heap.size + 1 + 1); have HQ1 := Ae hq1; have HQL := Ae hqlt; clear hq1 hqlt)
  | (go_at_call 188; (with_reducible refine (Fb _ (!g) a1 k1 c1 q1 (hr1.keep qF) HQL.out).mono ?_); rintro e w5 ⟨g3, n3, rfl, hn3, hnum3, hb⟩; obtain ⟨hc, hf⟩ := Ax hb; have hz := hb.size; (try simp only [Aj, Ak, Am] at hz); replace HB := zD w hb; obtain ⟨s0_0, s0_1⟩ := qX hc (w.heap.size) (.bool g) (.slice a n c); obtain ⟨s1_0, s1_1⟩ := qX hc (w.heap.size + 1) (.bool (!g)) (.slice a' n' c'); obtain ⟨s2_0, s2_1⟩ := qZ hc (w.heap.size + 1 + 1); obtain ⟨f2_0, f2_1⟩ := zA hf (w.heap.size + 1 + 1); have hfr2 : Av (w.heap.size + 1 + 1 + 1) w5 a1 c1 := (hfr1.keep (Al qF (hb.mono qA))).mono qS))
 exact qBf
theorem Ue (w : World) (g : Bool) (a : Option Addr) (n c : Nat) (z : Int) (h : A4 w g a n c z) (g' : Bool) (a' : Option Addr) (n' c' : Nat) (z' : Int) (h' : A4 w g' a' n' c' z') (hb1 : n < 35184372088830) (hb2 : n' < 35184372088830) :
  Calls Tryz.prog 202 #[.agg #[.bool g, .slice a n c], .agg #[.bool g', .slice a' n' c']] w (C4 w (z + z')) := by
 by_cases hg : g = g'
 ·subst hg
  exact Wt w g a n c z h a' n' c' z' h' hb1 hb2
 ·obtain rfl : g' = !g := by cases g <;> cases g' <;> simp_all
  rcases Nat.lt_or_ge z.natAbs z'.natAbs with hv | hv
  ·exact cD w g a n c z h a' n' c' z' h' hb1 hb2 hv
  ·exact dB w g a n c z h a' n' c' z' h' hb1 hb2 hv
theorem eV (w : World) (g : Bool) (a : Option Addr) (n c : Nat) (z : Int) (h : A4 w g a n c z) (g' : Bool) (a' : Option Addr) (n' c' : Nat) (z' : Int) (h' : A4 w g' a' n' c' z') (hb1 : n < 35184372088830) (hb2 : n' < 35184372088830) :
  Calls Tryz.prog 295 #[.agg #[.bool g, .slice a n c], .agg #[.bool g', .slice a' n' c']] w (C4 w (z - z')) := by
 have HB := Ac w.heap.size w
 go_enter Tryz.func295, Tryz.ntmps295
 go_wp2_with fail
 go_region_held3 (fun W => W.cell? ⟨w.heap.size, 0, none⟩ = some (.bool g) ∧ W.cell? ⟨w.heap.size, 1, none⟩ = some (.slice a n c) ∧ W.cell? ⟨w.heap.size + 1, 0, none⟩ = some (.bool g') ∧ W.cell? ⟨w.heap.size + 1, 1, none⟩ = some (.slice a' n' c')) (first | ((try dsimp only); (repeat' apply And.intro); all_goals (first | (with_reducible assumption) | (go_keep; done) | (simp [*, go_sem]; done)))) (first
  | (go_at_call 121; (with_reducible refine (Zk _ g' a' n' c' z' (h'.keep qF)).mono ?_); rintro e w1 ⟨g1, a1, n1, c1, rfl, hn1, hfr1, hb⟩; obtain ⟨hc, hf⟩ := Ax hb; have hz := hb.size; (try simp only [Aj, Ak, Am] at hz); replace HB := zD w hb; obtain ⟨s0_0, s0_1⟩ := qX hc (w.heap.size) (.bool g) (.slice a n c); obtain ⟨s1_0, s1_1⟩ := qX hc (w.heap.size + 1) (.bool g') (.slice a' n' c'); obtain ⟨s2_0, s2_1⟩ := qZ hc (w.heap.size + 1 + 1); obtain ⟨f2_0, f2_1⟩ := zA hf (w.heap.size + 1 + 1))
  | (go_at_call 202; (with_reducible refine (Ue _ g a n c z (h.keep qF) g1 a1 n1 c1 (-z') (hn1.keep qF) qB (by have := hn1.rd.len; rw [Int.natAbs_neg, h'.rd.len] at this; omega)).mono ?_); rintro e w2 ⟨g3, a3, n3, c3, rfl, hn3, hfr3, hb⟩; obtain ⟨hc, hf⟩ := Ax hb; have hz := hb.size; (try simp only [Aj, Ak, Am] at hz); replace HB := zD w hb; obtain ⟨s0_0, s0_1⟩ := qX hc (w.heap.size) (.bool g) (.slice a n c); obtain ⟨s1_0, s1_1⟩ := qX hc (w.heap.size + 1) (.bool g') (.slice a' n' c'); obtain ⟨s2_0, s2_1⟩ := qZ hc (w.heap.size + 1 + 1); obtain ⟨f2_0, f2_1⟩ := zA hf (w.heap.size + 1 + 1); have hfr4 := hfr3.mono (show w.heap.size + 1 + 1 + 1 ≤ _ from qS)))
 go_wp2_with fail
 refine bodyPost_ret (v := .agg #[.bool g3, .slice a3 n3 c3]) (by simp [results, Tryz.results295, go_sem, s2_0, s2_1]) rfl ?_
 rw [← Int.sub_eq_add_neg] at hn3
 have q3 : w.heap.size + 1 + 1 < w.heap.size + 1 + 1 + 1 := Ag _
 refine ⟨g3, a3, n3, c3, rfl, ?_, ((hfr4.setNew _ _ q3).setNew _ _ q3).mono qB, by go_grown⟩
 exact (hn3.setFresh hfr4 _ _ q3).setFresh (hfr4.setNew _ _ q3) _ _ q3
theorem cG (w : World) (a : Option Addr) (n c : Nat) (d : List Nat) (by' : Nat) (hd : RdL w a n c d) (hlt : ∀ x ∈ d, x < 1000000000) (hb0 : 0 < by') (hb1 : by' < 4294967296) :
  Calls Tryz.prog 325 #[.slice a n c, .int .u32 by'] w (Rp w n by' d) := by
 obtain ⟨i0, hi, hz0, hz1, hz2⟩ := info_parts Cu
 have hlen := hd.len
 have hn := hd.few
 have HLT := Ae hlt
 clear hlt
 go_enter Tryz.func325, Tryz.ntmps325
 go_wp2_with (refine wpList_make_full _ rfl _ _ 57 rfl w.heap.size 112 i0 (.int .u32 0) 1 Tryz.underlying57 hi hz0 hz1 .i64 .i64 _ _ n rfl rfl rfl rfl (by rw [hz2]; omega) qO (Ad _) ?_; intro w1 hown1 hgrow1)
 have HB : Below w.heap.size w w1 := (Ac _ _).grown hgrow1 (Ad _) (fun k h => by cases h)
 rw [Nat.mul_one, show Value.cells (.int .u32 0) = #[.int .u32 0] from rfl, toList_madeCells_one] at hown1
 clear hgrow1
 go_loopw [7, 8] (fun v6 v7 wr => ∃ (k r : Nat) (q : List Nat), k ≤ n ∧ v7 = .int .i64 ((k : Int) - 1) ∧ v6 = .int .u64 r ∧ r < by' ∧ Hid (r = val (d.drop k) % by') ∧ Hid (val q = val (d.drop k) / by') ∧ Hid (q.length = n - k) ∧ Hid (∀ x ∈ q, x < 1000000000) ∧
   wr.ownsRow w.heap.size 112 1 (.slice (some ⟨w.heap.size, 0, none⟩) n n) n (List.replicate k (.int .u32 0) ++ Bv q) ∧ Below w.heap.size w wr) (fun _ v7 _ => (intOf v7 + 1).toNat)
 case atStart => exact ⟨n, 0, [], Ad _, rfl, rfl, hb0, Ae (by rw [List.drop_of_length_le qB]; simp [val]), Ae (by rw [List.drop_of_length_le qB]; simp [val]), Ae qH, Ae (fun x hx => (by cases hx)), by simpa [Bv] using hown1, HB⟩
 case round =>
  obtain ⟨k, r, q, hk, rfl, rfl, hrb, hr, hq, hql, hqlt, hown, HB⟩ := hrel
  have HBz := HB.size
  have hlt1 := (hown.lt w.heap.size rfl).2
  clear hown1
  match k with
  | 0 =>
   exact qBz
  | j + 1 =>
   rw [show ((j + 1 : Nat) : Int) - 1 = (j : Int) from by omega]
   obtain ⟨b, o, rfl, c1⟩ := (hd.keep HB).at' (i := j) qB
   have hs := hd.small j
   have ha : d.getD j 0 < 1000000000 := by
    rw [List.getD, Ai qB]
    exact HLT.out _ (List.getElem_mem qB)
   have hlim : lim d j = ((d.getD j 0 : Nat) : Int) := rfl
   have hst := Oi (d.getD j 0) (val (d.drop (j + 1))) by' hb0
   rw [← E7 d j qB, ← hr.out, ← hq.out] at hst
   have HST := Ae hst
   have hdg := Mh (d.getD j 0) r by' hb0 hrb ha
   have hmod := Nat.mod_lt (r * 1000000000 + d.getD j 0) hb0
   have t1 : (1000000000 * (r : Int) + lim d j) / (by' : Int) = (((r * 1000000000 + d.getD j 0) / by' : Nat) : Int) := by rw [hlim]; simp [Int.mul_comm]
   have t2 : (1000000000 * (r : Int) + lim d j) % (by' : Int) = (((r * 1000000000 + d.getD j 0) % by' : Nat) : Int) := by rw [hlim]; simp [Int.mul_comm]
   have q1 : 0 ≤ (1000000000 * (r : Int) + lim d j) / (by' : Int) := by rw [t1]; revert hdg; generalize (r * 1000000000 + d.getD j 0) / by' = X; intro h; omega
   have q2 : (1000000000 * (r : Int) + lim d j) / (by' : Int) ≤ 999999999 := by rw [t1]; revert hdg; generalize (r * 1000000000 + d.getD j 0) / by' = X; intro h; omega
   have q3 : 0 ≤ (1000000000 * (r : Int) + lim d j) % (by' : Int) := by rw [t2]; revert hmod; generalize (r * 1000000000 + d.getD j 0) % by' = X; intro h; omega
   have q4 : (1000000000 * (r : Int) + lim d j) % (by' : Int) < by' := by rw [t2]; revert hmod; generalize (r * 1000000000 + d.getD j 0) % by' = X; intro h; omega
   have T1 := Ae t1
   have T2 := Ae t2
   have HM := Ae hmod
   have HDG := Ae hdg
   have hcell := hown.cellAt j qB
   rw [List.getElem?_append_left qH, List.getElem?_replicate, if_pos qB] at hcell
   have hfr := hown.frozenAt j
   have hb1' : (by' : Int) < 4294967296 := by omega
   have hb0' : (1 : Int) ≤ by' := by omega
   clear t1 t2 hst hlim ha hmod hdg
   go_wp2_with fail
   go_roundw
   case rel =>
    refine ⟨j, (r * 1000000000 + d.getD j 0) % by', (r * 1000000000 + d.getD j 0) / by' :: q, by omega, rfl, by rw [T2.out], HM.out, Ae HST.out.2.symm, Ae ?_, Ae ?_, Ae ?_, ?_, by go_grown⟩
    ·rw [val]; exact HST.out.1.symm
    ·have := hql.out; simp; omega
    ·intro x hx
     rcases List.mem_cons.1 hx with rfl | hx
     ·exact HDG.out
     ·exact hqlt.out x hx
    ·have := (hown.stored j (.int .u32 ((1000000000 * (r : Int) + lim d j) / (by' : Int)))).1
     exact qCv
   case measure => (first | (simp [intOf]; omega) | (simp [intOf]; done))
def Fw (w : World) (x y : Nat) (mq mr : Nat) (e : Ending) (w' : World) : Prop :=
 ∃ a k c q a' k' c' r, e = .returned (.tuple #[.slice a k c, .slice a' k' c']) ∧ RdL w' a k c q ∧ RdL w' a' k' c' r ∧ val q = x / y ∧ val r = x % y ∧ (∀ x ∈ q, x < 1000000000) ∧ (∀ x ∈ r, x < 1000000000) ∧ k ≤ mq ∧ k' ≤ mr ∧ Av w.heap.size w' a c ∧ Av w.heap.size w' a' c' ∧ Below w.heap.size w w'
theorem dK {w : World} (x : Nat) (hx : x < 4294967296) (w' : World) (hw : w' = w.alloc (.cells #[.int .u32 x] 112)) : RdL w' (some ⟨w.heap.size, 0, none⟩) 1 1 [x] := by
 subst hw
 refine ⟨rfl, Ad _, by omega, by omega, fun i => Bi (d := [x]) (fun y hy => by rw [Ao] at hy; omega) i, .inr ⟨_, _, rfl, fun i hi => ?_⟩⟩
 obtain rfl : i = 0 := by omega
 simp [go_sem, lim]
theorem aT (w : World) (a : Option Addr) (n c : Nat) (d : List Nat) (a' : Option Addr) (c' : Nat) (x : Nat) (hd : RdL w a n c d) (hd' : RdL w a' 1 c' [x]) (hlt : ∀ x ∈ d, x < 1000000000) (hx0 : 0 < x) (hx : x < 1000000000) :
  Calls Tryz.prog 294 #[.slice a n c, .slice a' 1 c'] w (Fw w (val d) x n 1) := by
 have hn := hd.few
 have HB := Ac w.heap.size w
 obtain ⟨b', o', rfl, c2⟩ := hd'.at' (i := 0) qB
 rw [show lim [x] 0 = (x : Int) from rfl, Nat.add_zero] at c2
 go_enter Tryz.func294, Tryz.ntmps294
 go_wp2_with fail
 refine (cG w a n c d x hd hlt hx0 qB).mono ?_
 rintro e w1 ⟨a1, q, rfl, hr1, hq, hqlt, hfr1, hb⟩
 have hmod := Nat.mod_lt (val d) hx0
 have HQ := Ae hq
 have HQL := Ae hqlt
 clear hq hqlt
 generalize hr : val d % x = r at *
 have HR := Ae hr
 clear hr
 have hsz := hb.size
 go_wp2_with fail
 refine bodyPost_ret (v := .tuple #[.slice a1 n n, .slice (some ⟨w1.heap.size, 0, none⟩) 1 1]) (by simp [results, Tryz.results294, go_sem]) rfl ?_
 refine ⟨a1, n, n, q, _, 1, 1, [r], rfl, hr1.alloc _, dK r qB _ rfl, HQ.out, by simp [val, HR.out], HQL.out, fun y hy => by rw [Ao] at hy; omega, Ad _, Ad _, hfr1.keep qF, .inr ⟨_, _, rfl, hsz, heap_alloc_new _ _, by simp⟩, by go_grown⟩
end Go.Proofs.YtdamegaedmckbaaGreatDoor
end
