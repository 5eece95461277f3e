/- The document's answer, layer 1: Div by a number above 0, where 'goes' is met. -/
import Derived.Test.YtdamegaedmckbaaGreatDoorQP12
set_option linter.unusedSimpArgs false
set_option linter.unusedVariables false
set_option maxRecDepth 100000
set_option maxHeartbeats 4000000
section
namespace Go.Proofs.YtdamegaedmckbaaGreatDoor
open Go.RowKit
theorem Zu (w : World) (a : Option Addr) (n c : Nat) (z : Int) (h : A4 w false a n c z) (a' : Option Addr) (n' c' : Nat) (z' : Int) (h' : A4 w false a' n' c' z') (hz' : 0 < z') (mq mr : Nat) (hmq : mq < 35184372088830) (hmr : mr < 35184372088830) (hb2 : n' < 35184372088830)
  (hgo : ∀ W, Below w.heap.size w W → Calls Tryz.prog 294 #[.slice a n c, .slice a' n' c'] W (Fw W z.natAbs z'.natAbs mq mr)) :
  Calls Tryz.prog 253 #[.agg #[.bool false, .slice a n c], .agg #[.bool false, .slice a' n' c']] w (Is w (z / z') (z % z')) := by
 have HB := Ac w.heap.size w
 have HO1 := Ae h.okay
 have HO2 := Ae h'.okay
 have hn' : (n' == 0) = false := by rw [beq_eq_false_iff_ne]; exact h'.ne.2 qB
 have hn1 : ((n' : Int) == 0) = false := by rw [beq_eq_false_iff_ne] at hn' ⊢; omega
 have HG := Ae h.neg
 go_enter Tryz.func253, Tryz.ntmps253
 go_wp2_with fail
 refine (Ei _ _ _ _ _ _ (h.rd.keep qF) true ⟨fun _ => rfl, fun _ => HO1.out⟩).mono ?_
 rintro e w1 ⟨rfl, hb⟩
 obtain ⟨hc, hf⟩ := Ax hb; have hz := hb.size; (try simp only [Aj, Ak] at hz)
 replace HB := zD w hb
 obtain ⟨s0_0, s0_1⟩ := qX hc (w.heap.size) (.bool false) (.slice a n c); obtain ⟨s1_0, s1_1⟩ := qX hc (w.heap.size + 1) (.bool false) (.slice a' n' c'); obtain ⟨s2_0, s2_1⟩ := qZ hc (w.heap.size + 1 + 1); obtain ⟨s3_0, s3_1⟩ := qZ hc (w.heap.size + 1 + 1 + 1); obtain ⟨f2_0, f2_1⟩ := zA hf (w.heap.size + 1 + 1); obtain ⟨f3_0, f3_1⟩ := zA hf (w.heap.size + 1 + 1 + 1)
 have hk1 : w.heap.size + 1 + 1 + 1 < w1.heap.size := by omega
 clear hc hf hb hz
 go_wp2_with fail
 refine (Ei _ _ _ _ _ _ (h'.rd.keep qF) true ⟨fun _ => rfl, fun _ => HO2.out⟩).mono ?_
 rintro e w2 ⟨rfl, hb⟩
 obtain ⟨hc, hf⟩ := Ax hb; have hz := hb.size; (try simp only [Aj, Ak] at hz)
 replace HB := zD w hb
 obtain ⟨s0_0, s0_1⟩ := qX hc (w.heap.size) (.bool false) (.slice a n c); obtain ⟨s1_0, s1_1⟩ := qX hc (w.heap.size + 1) (.bool false) (.slice a' n' c'); obtain ⟨s2_0, s2_1⟩ := qZ hc (w.heap.size + 1 + 1); obtain ⟨s3_0, s3_1⟩ := qZ hc (w.heap.size + 1 + 1 + 1); obtain ⟨f2_0, f2_1⟩ := zA hf (w.heap.size + 1 + 1); obtain ⟨f3_0, f3_1⟩ := zA hf (w.heap.size + 1 + 1 + 1)
 have hk2 : w.heap.size + 1 + 1 + 1 < w2.heap.size := by omega
 clear hc hf hb hz
 go_wp2_with fail
 refine (hgo _ qF).mono ?_
 rintro e w3 ⟨a1, k1, c1, q, a2, k2, c2, r, rfl, hq, hr, hqv, hrv, hql, hrl, hk1', hk2', hfq, hfr, hb⟩
 obtain ⟨hc, hf⟩ := Ax hb; have hz := hb.size; (try simp only [Aj, Ak] at hz)
 replace HB := zD w hb
 obtain ⟨s0_0, s0_1⟩ := qX hc (w.heap.size) (.bool false) (.slice a n c); obtain ⟨s1_0, s1_1⟩ := qX hc (w.heap.size + 1) (.bool false) (.slice a' n' c'); obtain ⟨s2_0, s2_1⟩ := qZ hc (w.heap.size + 1 + 1); obtain ⟨s3_0, s3_1⟩ := qZ hc (w.heap.size + 1 + 1 + 1); obtain ⟨f2_0, f2_1⟩ := zA hf (w.heap.size + 1 + 1); obtain ⟨f3_0, f3_1⟩ := zA hf (w.heap.size + 1 + 1 + 1)
 have hk3 : w.heap.size + 1 + 1 + 1 < w3.heap.size := by omega
 have hs3 : w2.heap.size ≤ w3.heap.size := by omega
 have HQV := Ae hqv
 have HRV := Ae hrv
 have HQL := Ae hql
 have HRL := Ae hrl
 clear hqv hrv hql hrl hc hf hb hz
 go_wp2_with fail
 refine (Fb _ _ _ _ _ q (hq.keep qF) HQL.out).mono ?_
 rintro e w4 ⟨g4, n4, rfl, hn4, hnum4, hb⟩
 obtain ⟨hc, hf⟩ := Ax hb; have hz := hb.size; (try simp only [Aj, Ak] at hz)
 replace HB := zD w hb
 obtain ⟨s0_0, s0_1⟩ := qX hc (w.heap.size) (.bool false) (.slice a n c); obtain ⟨s1_0, s1_1⟩ := qX hc (w.heap.size + 1) (.bool false) (.slice a' n' c'); obtain ⟨s2_0, s2_1⟩ := qZ hc (w.heap.size + 1 + 1); obtain ⟨s3_0, s3_1⟩ := qZ hc (w.heap.size + 1 + 1 + 1); obtain ⟨f2_0, f2_1⟩ := zA hf (w.heap.size + 1 + 1); obtain ⟨f3_0, f3_1⟩ := zA hf (w.heap.size + 1 + 1 + 1)
 have hk4 : w.heap.size + 1 + 1 + 1 < w4.heap.size := by omega
 have hs4 : w2.heap.size ≤ w4.heap.size := by omega
 have hk40 : w.heap.size < w4.heap.size := by omega
 have hk41 : w.heap.size + 1 < w4.heap.size := by omega
 have hk42 : w.heap.size + 1 + 1 < w4.heap.size := by omega
 have hr4 := hr.keep hb
 have hfq4 := hfq.keep hb
 have hfr4 := hfr.keep hb
 have hnq : n4 ≤ mq := Ah hn4 (by rw [hq.len]; exact hk1')
 clear hc hf hb
 go_wp2_with fail
 refine (Fb _ _ _ _ _ r (hr4.keep qF) HRL.out).mono ?_
 rintro e w5 ⟨g5, n5, rfl, hn5, hnum5, hb⟩
 obtain ⟨hc, hf⟩ := Ax hb; have hz := hb.size; (try simp only [Aj, Ak] at hz)
 replace HB := zD w hb
 obtain ⟨s0_0, s0_1⟩ := qX hc (w.heap.size) (.bool false) (.slice a n c); obtain ⟨s1_0, s1_1⟩ := qX hc (w.heap.size + 1) (.bool false) (.slice a' n' c'); obtain ⟨s2_0, s2_1⟩ := qZ hc (w.heap.size + 1 + 1); obtain ⟨s3_0, s3_1⟩ := qZ hc (w.heap.size + 1 + 1 + 1); obtain ⟨f2_0, f2_1⟩ := zA hf (w.heap.size + 1 + 1); obtain ⟨f3_0, f3_1⟩ := zA hf (w.heap.size + 1 + 1 + 1)
 have hk5 : w.heap.size + 1 + 1 + 1 < w5.heap.size := by omega
 have hs5 : w2.heap.size ≤ w5.heap.size := by omega
 have hk50 : w.heap.size < w5.heap.size := by omega
 have hk51 : w.heap.size + 1 < w5.heap.size := by omega
 have hk52 : w.heap.size + 1 + 1 < w5.heap.size := by omega
 have hk45 : w4.heap.size < w5.heap.size := by omega
 have q0 : w5.cell? ⟨w4.heap.size, 0, none⟩ = some (.bool g4) := (hc _ _ qA).trans qJ
 have q1 : w5.cell? ⟨w4.heap.size, 1, none⟩ = some (.slice a1 n4 c1) := (hc _ _ qA).trans qJ
 have hnum4' := (hnum4.keep ((Ac _ _).alloc (Ad _) _)).keep hb
 have hfq5 := (hfq4.keep ((Ac _ _).alloc (Ad _) _)).keep hb
 have hfr5 := (hfr4.keep ((Ac _ _).alloc (Ad _) _)).keep hb
 have hnr : n5 ≤ mr := Ah hn5 (by rw [hr.len]; exact hk2')
 rw [HQV.out] at hnum4'
 rw [HRV.out] at hnum5
 clear hc hf hb hz
 have hd := Wj (z := z) (z' := z') (by have := HG.out; simpa using this.symm)
 rw [show decide (z' < 0) = false by rw [decide_eq_false_iff_not]; omega] at hd
 have HD1 := Ae hd.1
 have HD2 := Ae hd.2
 clear hd
 obtain rfl : g5 = false := by rw [hnum5.neg, decide_eq_false_iff_not]; simp [sgn]; omega
 exact qAr
theorem Zb (w : World) (a : Option Addr) (n c : Nat) (z : Int) (h : A4 w true a n c z) (a' : Option Addr) (n' c' : Nat) (z' : Int) (h' : A4 w false a' n' c' z') (hz' : 0 < z') (mq mr : Nat) (hmq : mq < 35184372088830) (hmr : mr < 35184372088830) (hb2 : n' < 35184372088830)
  (hgo : ∀ W, Below w.heap.size w W → Calls Tryz.prog 294 #[.slice a n c, .slice a' n' c'] W (Fw W z.natAbs z'.natAbs mq mr)) :
  Calls Tryz.prog 253 #[.agg #[.bool true, .slice a n c], .agg #[.bool false, .slice a' n' c']] w (Is w (z / z') (z % z')) := by
 have HB := Ac w.heap.size w
 have HO1 := Ae h.okay
 have HO2 := Ae h'.okay
 have hn' : (n' == 0) = false := by rw [beq_eq_false_iff_ne]; exact h'.ne.2 qB
 have hn1 : ((n' : Int) == 0) = false := by rw [beq_eq_false_iff_ne] at hn' ⊢; omega
 have HG := Ae h.neg
 go_enter Tryz.func253, Tryz.ntmps253
 go_wp2_with fail
 refine (Ei _ _ _ _ _ _ (h.rd.keep qF) true ⟨fun _ => rfl, fun _ => HO1.out⟩).mono ?_
 rintro e w1 ⟨rfl, hb⟩
 obtain ⟨hc, hf⟩ := Ax hb; have hz := hb.size; (try simp only [Aj, Ak] at hz)
 replace HB := zD w hb
 obtain ⟨s0_0, s0_1⟩ := qX hc (w.heap.size) (.bool true) (.slice a n c); obtain ⟨s1_0, s1_1⟩ := qX hc (w.heap.size + 1) (.bool false) (.slice a' n' c'); obtain ⟨s2_0, s2_1⟩ := qZ hc (w.heap.size + 1 + 1); obtain ⟨s3_0, s3_1⟩ := qZ hc (w.heap.size + 1 + 1 + 1); obtain ⟨f2_0, f2_1⟩ := zA hf (w.heap.size + 1 + 1); obtain ⟨f3_0, f3_1⟩ := zA hf (w.heap.size + 1 + 1 + 1)
 have hk1 : w.heap.size + 1 + 1 + 1 < w1.heap.size := by omega
 clear hc hf hb hz
 go_wp2_with fail
 refine (Ei _ _ _ _ _ _ (h'.rd.keep qF) true ⟨fun _ => rfl, fun _ => HO2.out⟩).mono ?_
 rintro e w2 ⟨rfl, hb⟩
 obtain ⟨hc, hf⟩ := Ax hb; have hz := hb.size; (try simp only [Aj, Ak] at hz)
 replace HB := zD w hb
 obtain ⟨s0_0, s0_1⟩ := qX hc (w.heap.size) (.bool true) (.slice a n c); obtain ⟨s1_0, s1_1⟩ := qX hc (w.heap.size + 1) (.bool false) (.slice a' n' c'); obtain ⟨s2_0, s2_1⟩ := qZ hc (w.heap.size + 1 + 1); obtain ⟨s3_0, s3_1⟩ := qZ hc (w.heap.size + 1 + 1 + 1); obtain ⟨f2_0, f2_1⟩ := zA hf (w.heap.size + 1 + 1); obtain ⟨f3_0, f3_1⟩ := zA hf (w.heap.size + 1 + 1 + 1)
 have hk2 : w.heap.size + 1 + 1 + 1 < w2.heap.size := by omega
 clear hc hf hb hz
 go_wp2_with fail
 refine (hgo _ qF).mono ?_
 rintro e w3 ⟨a1, k1, c1, q, a2, k2, c2, r, rfl, hq, hr, hqv, hrv, hql, hrl, hk1', hk2', hfq, hfr, hb⟩
 obtain ⟨hc, hf⟩ := Ax hb; have hz := hb.size; (try simp only [Aj, Ak] at hz)
 replace HB := zD w hb
 obtain ⟨s0_0, s0_1⟩ := qX hc (w.heap.size) (.bool true) (.slice a n c); obtain ⟨s1_0, s1_1⟩ := qX hc (w.heap.size + 1) (.bool false) (.slice a' n' c'); obtain ⟨s2_0, s2_1⟩ := qZ hc (w.heap.size + 1 + 1); obtain ⟨s3_0, s3_1⟩ := qZ hc (w.heap.size + 1 + 1 + 1); obtain ⟨f2_0, f2_1⟩ := zA hf (w.heap.size + 1 + 1); obtain ⟨f3_0, f3_1⟩ := zA hf (w.heap.size + 1 + 1 + 1)
 have hk3 : w.heap.size + 1 + 1 + 1 < w3.heap.size := by omega
 have hs3 : w2.heap.size ≤ w3.heap.size := by omega
 have HQV := Ae hqv
 have HRV := Ae hrv
 have HQL := Ae hql
 have HRL := Ae hrl
 clear hqv hrv hql hrl hc hf hb hz
 go_wp2_with fail
 refine (Fb _ _ _ _ _ q (hq.keep qF) HQL.out).mono ?_
 rintro e w4 ⟨g4, n4, rfl, hn4, hnum4, hb⟩
 obtain ⟨hc, hf⟩ := Ax hb; have hz := hb.size; (try simp only [Aj, Ak] at hz)
 replace HB := zD w hb
 obtain ⟨s0_0, s0_1⟩ := qX hc (w.heap.size) (.bool true) (.slice a n c); obtain ⟨s1_0, s1_1⟩ := qX hc (w.heap.size + 1) (.bool false) (.slice a' n' c'); obtain ⟨s2_0, s2_1⟩ := qZ hc (w.heap.size + 1 + 1); obtain ⟨s3_0, s3_1⟩ := qZ hc (w.heap.size + 1 + 1 + 1); obtain ⟨f2_0, f2_1⟩ := zA hf (w.heap.size + 1 + 1); obtain ⟨f3_0, f3_1⟩ := zA hf (w.heap.size + 1 + 1 + 1)
 have hk4 : w.heap.size + 1 + 1 + 1 < w4.heap.size := by omega
 have hs4 : w2.heap.size ≤ w4.heap.size := by omega
 have hk40 : w.heap.size < w4.heap.size := by omega
 have hk41 : w.heap.size + 1 < w4.heap.size := by omega
 have hk42 : w.heap.size + 1 + 1 < w4.heap.size := by omega
 have hr4 := hr.keep hb
 have hfq4 := hfq.keep hb
 have hfr4 := hfr.keep hb
 have hnq : n4 ≤ mq := Ah hn4 (by rw [hq.len]; exact hk1')
 clear hc hf hb
 go_wp2_with fail
 refine (Fb _ _ _ _ _ r (hr4.keep qF) HRL.out).mono ?_
 rintro e w5 ⟨g5, n5, rfl, hn5, hnum5, hb⟩
 obtain ⟨hc, hf⟩ := Ax hb; have hz := hb.size; (try simp only [Aj, Ak] at hz)
 replace HB := zD w hb
 obtain ⟨s0_0, s0_1⟩ := qX hc (w.heap.size) (.bool true) (.slice a n c); obtain ⟨s1_0, s1_1⟩ := qX hc (w.heap.size + 1) (.bool false) (.slice a' n' c'); obtain ⟨s2_0, s2_1⟩ := qZ hc (w.heap.size + 1 + 1); obtain ⟨s3_0, s3_1⟩ := qZ hc (w.heap.size + 1 + 1 + 1); obtain ⟨f2_0, f2_1⟩ := zA hf (w.heap.size + 1 + 1); obtain ⟨f3_0, f3_1⟩ := zA hf (w.heap.size + 1 + 1 + 1)
 have hk5 : w.heap.size + 1 + 1 + 1 < w5.heap.size := by omega
 have hs5 : w2.heap.size ≤ w5.heap.size := by omega
 have hk50 : w.heap.size < w5.heap.size := by omega
 have hk51 : w.heap.size + 1 < w5.heap.size := by omega
 have hk52 : w.heap.size + 1 + 1 < w5.heap.size := by omega
 have hk45 : w4.heap.size < w5.heap.size := by omega
 have q0 : w5.cell? ⟨w4.heap.size, 0, none⟩ = some (.bool g4) := (hc _ _ qA).trans qJ
 have q1 : w5.cell? ⟨w4.heap.size, 1, none⟩ = some (.slice a1 n4 c1) := (hc _ _ qA).trans qJ
 have hnum4' := (hnum4.keep ((Ac _ _).alloc (Ad _) _)).keep hb
 have hfq5 := (hfq4.keep ((Ac _ _).alloc (Ad _) _)).keep hb
 have hfr5 := (hfr4.keep ((Ac _ _).alloc (Ad _) _)).keep hb
 have hnr : n5 ≤ mr := Ah hn5 (by rw [hr.len]; exact hk2')
 rw [HQV.out] at hnum4'
 rw [HRV.out] at hnum5
 clear hc hf hb hz
 have hd := Qm (z := z) (z' := z') (by have := HG.out; simpa using this.symm) qB
 rw [show decide (z' < 0) = false by rw [decide_eq_false_iff_not]; omega, Bool.not_false, if_neg (show ¬ z' < 0 by omega)] at hd
 by_cases hr0 : z.natAbs % z'.natAbs = 0
 ·rw [if_pos hr0, if_pos hr0, Int.add_zero, Int.add_zero] at hd
  have HD1 := Ae hd.1
  have HD2 := Ae hd.2
  clear hd
  obtain rfl : g5 = false := by rw [hnum5.neg, hr0]; rfl
  have HR0 := Ae hr0
  clear hr0
  exact qAr
 ·rw [if_neg hr0, if_neg hr0, show ((z'.natAbs : Nat) : Int) = z' by omega, show (-1 : Int) = -1 from rfl, ← Int.sub_eq_add_neg] at hd
  have HD1 := Ae hd.1
  have HD2 := Ae hd.2
  clear hd
  obtain rfl : g5 = true := by rw [hnum5.neg, decide_eq_true_iff]; simp [sgn]; omega
  have HR0 := Ae hr0
  clear hr0
  go_wp2_with fail
  refine (bF _ 1 qB qB).mono ?_
  rintro e w6 ⟨g6, a6, n6, c6, rfl, hnum6, hfr6, hb⟩
  obtain ⟨hc, hf⟩ := Ax hb; have hz := hb.size; (try simp only [Aj, Ak] at hz)
  replace HB := zD w hb
  obtain ⟨s0_0, s0_1⟩ := qX hc (w.heap.size) (.bool true) (.slice a n c); obtain ⟨s1_0, s1_1⟩ := qX hc (w.heap.size + 1) (.bool false) (.slice a' n' c'); obtain ⟨s2_0, s2_1⟩ := qZ hc (w.heap.size + 1 + 1); obtain ⟨s3_0, s3_1⟩ := qZ hc (w.heap.size + 1 + 1 + 1); obtain ⟨f2_0, f2_1⟩ := zA hf (w.heap.size + 1 + 1); obtain ⟨f3_0, f3_1⟩ := zA hf (w.heap.size + 1 + 1 + 1)
  have hk6 : w.heap.size + 1 + 1 + 1 < w6.heap.size := by omega
  have hs6 : w2.heap.size ≤ w6.heap.size := by omega
  have hk60 : w.heap.size < w6.heap.size := by omega
  have hk61 : w.heap.size + 1 < w6.heap.size := by omega
  have hk62 : w.heap.size + 1 + 1 < w6.heap.size := by omega
  have hk46 : w4.heap.size < w6.heap.size := by omega
  have hk56 : w5.heap.size < w6.heap.size := by omega
  have q0' : w6.cell? ⟨w4.heap.size, 0, none⟩ = some (.bool g4) := (hc _ _ qA).trans qN
  have q1' : w6.cell? ⟨w4.heap.size, 1, none⟩ = some (.slice a1 n4 c1) := (hc _ _ qA).trans qN
  have r0 : w6.cell? ⟨w5.heap.size, 0, none⟩ = some (.bool true) := (hc _ _ qA).trans qJ
  have r1 : w6.cell? ⟨w5.heap.size, 1, none⟩ = some (.slice a2 n5 c2) := (hc _ _ qA).trans qJ
  have hnum4'' := (hnum4'.keep ((Ac _ _).alloc (Ad _) _)).keep hb
  have hnum5' := (hnum5.keep ((Ac _ _).alloc (Ad _) _)).keep hb
  have hn6 : n6 ≤ 1 := by have := hnum6.rd.len; rw [show (1 : Int).natAbs = 1 from rfl, Gs qB, show 1 / 1000000000 = 0 from rfl, Dl] at this; simp at this; omega
  clear hc hf hb hz
  go_upto_region 13 with fail
  go_region_held3 (fun W => W.cell? ⟨w4.heap.size, 0, none⟩ = some (.bool g4) ∧ W.cell? ⟨w4.heap.size, 1, none⟩ = some (.slice a1 n4 c1) ∧ W.cell? ⟨w5.heap.size, 0, none⟩ = some (.bool true) ∧ W.cell? ⟨w5.heap.size, 1, none⟩ = some (.slice a2 n5 c2) ∧ W.cell? ⟨w6.heap.size, 0, none⟩ = some (.bool g6) ∧ W.cell? ⟨w6.heap.size, 1, none⟩ = some (.slice a6 n6 c6) ∧ W.cell? ⟨w.heap.size + 1, 0, none⟩ = some (.bool false) ∧ W.cell? ⟨w.heap.size + 1, 1, none⟩ = some (.slice a' n' c')) (first | ((try dsimp only); (repeat' apply And.intro); all_goals (first | (with_reducible assumption) | (go_keep; done) | (simp [*, go_sem]; done)))) (first
   | (go_at_call 295; (with_reducible refine (eV _ g4 a1 n4 c1 _ (hnum4''.keep qF) g6 a6 n6 c6 1 (hnum6.keep qF) qB qB).mono ?_); rintro e w7 ⟨g7, a7, n7, c7, rfl, hnum7, hfr7, hb⟩; obtain ⟨hc, hf⟩ := Ax hb; have hz := hb.size; (try simp only [Aj, Ak, Am] at hz); replace HB := zD w hb; obtain ⟨ka0, ka1⟩ := qX hc (w4.heap.size) (.bool g4) (.slice a1 n4 c1); obtain ⟨kb0, kb1⟩ := qX hc (w5.heap.size) (.bool true) (.slice a2 n5 c2); obtain ⟨kc0, kc1⟩ := qX hc (w6.heap.size) (.bool g6) (.slice a6 n6 c6); obtain ⟨kd0, kd1⟩ := qX hc (w.heap.size + 1) (.bool false) (.slice a' n' c'); obtain ⟨ke0, ke1⟩ := qZ hc (w.heap.size + 1 + 1); obtain ⟨kf0, kf1⟩ := qZ hc (w.heap.size + 1 + 1 + 1); obtain ⟨fke0, fke1⟩ := zA hf (w.heap.size + 1 + 1); obtain ⟨fkf0, fkf1⟩ := zA hf (w.heap.size + 1 + 1 + 1); have hz7 : w6.heap.size < w7.heap.size := qB; have hb67 : Below w6.heap.size w6 w7 := Al (((Ac w6.heap.size w6).alloc (Ad _) _).drew) (hb.mono qH))
   | (go_at_call 202; (with_reducible refine (Ue _ true a2 n5 c2 _ (hnum5'.keep (by first | go_grown | exact hb67)) false a' n' c' z' (h'.keep qF) qB qB).mono ?_); rintro e w8 ⟨g8, a8, n8, c8, rfl, hnum8, hfr8, hb⟩; obtain ⟨hc, hf⟩ := Ax hb; have hz := hb.size; (try simp only [Aj, Ak, Am] at hz); replace HB := zD w hb; obtain ⟨ka0, ka1⟩ := qX hc (w4.heap.size) (.bool g4) (.slice a1 n4 c1); obtain ⟨kb0, kb1⟩ := qX hc (w5.heap.size) (.bool true) (.slice a2 n5 c2); obtain ⟨kc0, kc1⟩ := qX hc (w6.heap.size) (.bool g6) (.slice a6 n6 c6); obtain ⟨kd0, kd1⟩ := qX hc (w.heap.size + 1) (.bool false) (.slice a' n' c'); obtain ⟨ke0, ke1⟩ := qZ hc (w.heap.size + 1 + 1); obtain ⟨kf0, kf1⟩ := qZ hc (w.heap.size + 1 + 1 + 1); obtain ⟨fke0, fke1⟩ := zA hf (w.heap.size + 1 + 1); obtain ⟨fkf0, fkf1⟩ := zA hf (w.heap.size + 1 + 1 + 1); have hnum7' := hnum7.keep (Al qF (hb.mono qA)); have hfr7' := hfr7.keep (Al qF (hb.mono qA))))
  all_goals
   have hfq9 := hfr7'.mono (B' := w2.heap.size) (by first | omega | (simp; omega))
   have hfr9 := hfr8.mono (B' := w2.heap.size) (by first | omega | (simp; omega))
  all_goals go_wp2_with fail
  all_goals
   refine bodyPost_ret (v := .tuple #[.agg #[.bool g7, .slice a7 n7 c7], .agg #[.bool g8, .slice a8 n8 c8], .int .i64 0]) (by simp [results, Tryz.results253, go_sem, *]) rfl ?_
   have u2 : w.heap.size + 1 + 1 < w2.heap.size := by omega
   have u3 : w.heap.size + 1 + 1 + 1 < w2.heap.size := by omega
   refine ⟨g7, a7, n7, c7, g8, a8, n8, c8, rfl, ?_, ?_, ?_, ?_, by go_grown⟩
   ·rw [HD1.out]
    first
     | exact (hnum7'.set4 hfq9 ⟨w.heap.size + 1 + 1, 0, none⟩ ⟨w.heap.size + 1 + 1, 1, none⟩ ⟨w.heap.size + 1 + 1 + 1, 0, none⟩ ⟨w.heap.size + 1 + 1 + 1, 1, none⟩ _ _ _ _ u2 u2 u3 u3).keep qF
     | exact (hnum7'.set4 hfq9 ⟨w.heap.size + 1 + 1 + 1, 0, none⟩ ⟨w.heap.size + 1 + 1 + 1, 1, none⟩ ⟨w.heap.size + 1 + 1, 0, none⟩ ⟨w.heap.size + 1 + 1, 1, none⟩ _ _ _ _ u3 u3 u2 u2).keep qF
   ·rw [HD2.out]
    first
     | exact (hnum8.set4 hfr9 ⟨w.heap.size + 1 + 1, 0, none⟩ ⟨w.heap.size + 1 + 1, 1, none⟩ ⟨w.heap.size + 1 + 1 + 1, 0, none⟩ ⟨w.heap.size + 1 + 1 + 1, 1, none⟩ _ _ _ _ u2 u2 u3 u3).keep qF
     | exact (hnum8.set4 hfr9 ⟨w.heap.size + 1 + 1 + 1, 0, none⟩ ⟨w.heap.size + 1 + 1 + 1, 1, none⟩ ⟨w.heap.size + 1 + 1, 0, none⟩ ⟨w.heap.size + 1 + 1, 1, none⟩ _ _ _ _ u3 u3 u2 u2).keep qF
   ·first
     | exact ((hfq9.set4 ⟨w.heap.size + 1 + 1, 0, none⟩ ⟨w.heap.size + 1 + 1, 1, none⟩ ⟨w.heap.size + 1 + 1 + 1, 0, none⟩ ⟨w.heap.size + 1 + 1 + 1, 1, none⟩ _ _ _ _ u2 u2 u3 u3).keep qF).mono qB
     | exact ((hfq9.set4 ⟨w.heap.size + 1 + 1 + 1, 0, none⟩ ⟨w.heap.size + 1 + 1 + 1, 1, none⟩ ⟨w.heap.size + 1 + 1, 0, none⟩ ⟨w.heap.size + 1 + 1, 1, none⟩ _ _ _ _ u3 u3 u2 u2).keep qF).mono qB
   ·first
     | exact ((hfr9.set4 ⟨w.heap.size + 1 + 1, 0, none⟩ ⟨w.heap.size + 1 + 1, 1, none⟩ ⟨w.heap.size + 1 + 1 + 1, 0, none⟩ ⟨w.heap.size + 1 + 1 + 1, 1, none⟩ _ _ _ _ u2 u2 u3 u3).keep qF).mono qB
     | exact ((hfr9.set4 ⟨w.heap.size + 1 + 1 + 1, 0, none⟩ ⟨w.heap.size + 1 + 1 + 1, 1, none⟩ ⟨w.heap.size + 1 + 1, 0, none⟩ ⟨w.heap.size + 1 + 1, 1, none⟩ _ _ _ _ u3 u3 u2 u2).keep qF).mono qB
theorem Z8 (w : World) (g : Bool) (a : Option Addr) (n c : Nat) (z : Int) (h : A4 w g a n c z) (g' : Bool) (a' : Option Addr) (n' c' : Nat) (z' : Int) (h' : A4 w g' a' n' c' z') (hz' : 0 < z') (mq mr : Nat) (hmq : mq < 35184372088830) (hmr : mr < 35184372088830) (hb2 : n' < 35184372088830)
  (hgo : ∀ W, Below w.heap.size w W → Calls Tryz.prog 294 #[.slice a n c, .slice a' n' c'] W (Fw W z.natAbs z'.natAbs mq mr)) :
  Calls Tryz.prog 253 #[.agg #[.bool g, .slice a n c], .agg #[.bool g', .slice a' n' c']] w (Is w (z / z') (z % z')) := by
 obtain rfl : g' = false := by rw [h'.neg, decide_eq_false_iff_not]; omega
 cases g
 ·exact Zu w a n c z h a' n' c' z' h' hz' mq mr hmq hmr hb2 hgo
 ·exact Zb w a n c z h a' n' c' z' h' hz' mq mr hmq hmr hb2 hgo
end Go.Proofs.YtdamegaedmckbaaGreatDoor
end
