/- Package limbs: Add. -/
import Derived.Test.YtdamegaedmckbaaGreatDoorQP2
set_option linter.unusedSimpArgs false
set_option linter.unusedVariables false
set_option maxRecDepth 100000
set_option maxHeartbeats 4000000
section
namespace Go.Proofs.YtdamegaedmckbaaGreatDoor
open Go.RowKit
theorem Av.newA {B : Nat} {w : World} {a : Option Addr} {n c : Nat} {d : List Nat} (h : Av B w a c) (hd : RdL w a n c d) : n = 0 ∨ Qh B a := by
 rcases h with rfl | ⟨b, cur, h1, h2, _⟩
 ·exact .inl (by have := hd.cap; omega)
 ·exact .inr (fun x hx => by rw [h1] at hx; cases hx; exact h2)
theorem RdL.setFresh {w : World} {a : Option Addr} {n c : Nat} {d : List Nat} {B : Nat} (h : RdL w a n c d) (hf : Av B w a c) (p : Addr) (u : Value) (hp : p.block < B) : RdL (w.setCell p u) a n c d := by
 rcases hf.newA h with h0 | h0
 ·exact ⟨h.len, h.cap, h.few, h.top, h.small, .inl h0⟩
 ·exact h.setNew p u (h0.mono qB)
theorem A4.setFresh {w : World} {g : Bool} {a : Option Addr} {n c : Nat} {z : Int} {B : Nat} (h : A4 w g a n c z) (hf : Av B w a c) (p : Addr) (u : Value) (hp : p.block < B) : A4 (w.setCell p u) g a n c z := ⟨h.neg, h.rd.setFresh hf p u hp⟩
theorem Vn (w : World) (g : Bool) (a : Option Addr) (n c : Nat) (z : Int) (h : A4 w g a n c z) (a' : Option Addr) (n' c' : Nat) (z' : Int) (h' : A4 w g a' n' c' z')
  (hb1 : n < 35184372088831) (hb2 : n' < 35184372088831) (hsw : 0 ≤ Br (val (dg z.natAbs)) (val (dg z'.natAbs))) (hle : z'.natAbs ≤ z.natAbs) :
  Calls Tryz.prog 227 #[.agg #[.bool g, .slice a n c], .agg #[.bool g, .slice a' n' c']] w (C4 w (z + z')) := by
 have HB := Ac w.heap.size w
 have hlx := h.rd.len
 have hly := h'.rd.len
 have hll := Be hle
 have HSW := Ae hsw
 clear hsw
 go_enter Tryz.func227, Tryz.ntmps227
 go_wp2_with fail
 go_region_held3 (fun W => W.cell? ⟨w.heap.size, 0, none⟩ = some (.bool g) ∧ W.cell? ⟨w.heap.size, 1, none⟩ = some (.slice a n c) ∧ W.cell? ⟨w.heap.size + 1, 0, none⟩ = some (.bool g) ∧ W.cell? ⟨w.heap.size + 1, 1, none⟩ = some (.slice a' n' c')) (first | ((try dsimp only); (repeat' apply And.intro); all_goals (first | (with_reducible assumption) | (go_keep; done) | (simp [*, go_sem]; done)))) (first
  | (go_at_call 95; (with_reducible refine (H3 _ g a n c z (h.keep qF)).mono ?_); rintro e w1 ⟨rfl, hb⟩; obtain ⟨hc, hf⟩ := Ax hb; have hz := hb.size; (try simp only [Aj, Ak] at hz); replace HB := zD w hb; obtain ⟨s0_0, s0_1⟩ := qX hc (w.heap.size) (.bool g) (.slice a n c); obtain ⟨s1_0, s1_1⟩ := qX hc (w.heap.size + 1) (.bool g) (.slice a' n' c'); obtain ⟨s2_0, s2_1⟩ := qZ hc (w.heap.size + 1 + 1); obtain ⟨f2_0, f2_1⟩ := zA hf (w.heap.size + 1 + 1); obtain ⟨f0_0, f0_1⟩ := zA hf (w.heap.size); obtain ⟨f1_0, f1_1⟩ := zA hf (w.heap.size + 1))
  | (go_at_call 95; (with_reducible refine (H3 _ g a' n' c' z' (h'.keep qF)).mono ?_); rintro e w1 ⟨rfl, hb⟩; obtain ⟨hc, hf⟩ := Ax hb; have hz := hb.size; (try simp only [Aj, Ak] at hz); replace HB := zD w hb; obtain ⟨s0_0, s0_1⟩ := qX hc (w.heap.size) (.bool g) (.slice a n c); obtain ⟨s1_0, s1_1⟩ := qX hc (w.heap.size + 1) (.bool g) (.slice a' n' c'); obtain ⟨s2_0, s2_1⟩ := qZ hc (w.heap.size + 1 + 1); obtain ⟨f2_0, f2_1⟩ := zA hf (w.heap.size + 1 + 1); obtain ⟨f0_0, f0_1⟩ := zA hf (w.heap.size); obtain ⟨f1_0, f1_1⟩ := zA hf (w.heap.size + 1)))
 replace HB : Below w.heap.size w ((((w1.setCell ⟨w.heap.size, 0, none⟩ (.bool g)).setCell ⟨w.heap.size, 1, none⟩ (.slice a n c)).setCell ⟨w.heap.size + 1, 0, none⟩ (.bool g)).setCell ⟨w.heap.size + 1, 1, none⟩ (.slice a' n' c')) := by go_grown
 go_wp2_with fail
 refine (Ek _ _ _ _ (dg z.natAbs) _ _ _ (dg z'.natAbs) (h.rd.keep HB) (h'.rd.keep HB) (Bp _) (Bp _)).mono ?_
 rintro e w2 ⟨rfl, hb⟩
 obtain ⟨hc, hf⟩ := Ax hb
 have hz := hb.size
 simp only [Am] at hz
 replace HB : Below w.heap.size w w2 := Al HB (hb.mono HB.size)
 have HBz := HB.size
 have u0 : w2.cell? ⟨w.heap.size, 0, none⟩ = some (.bool g) := (hc _ _ qA).trans qN
 have u1 : w2.cell? ⟨w.heap.size, 1, none⟩ = some (.slice a n c) := (hc _ _ qA).trans qN
 have u2 : w2.cell? ⟨w.heap.size + 1, 0, none⟩ = some (.bool g) := (hc _ _ qA).trans qN
 have u3 : w2.cell? ⟨w.heap.size + 1, 1, none⟩ = some (.slice a' n' c') := (hc _ _ qA).trans qN
 have u4 : w2.cell? ⟨w.heap.size + 1 + 1, 0, none⟩ = some (.bool false) := (hc _ _ qA).trans qN
 have u5 : w2.cell? ⟨w.heap.size + 1 + 1, 1, none⟩ = some (.slice none 0 0) := (hc _ _ qA).trans qN
 have v0 : w2.frozen? ⟨w.heap.size, 0, none⟩ = false := (hf _ _ qA).trans qN
 have v1 : w2.frozen? ⟨w.heap.size, 1, none⟩ = false := (hf _ _ qA).trans qN
 have v2 : w2.frozen? ⟨w.heap.size + 1, 0, none⟩ = false := (hf _ _ qA).trans qN
 have v3 : w2.frozen? ⟨w.heap.size + 1, 1, none⟩ = false := (hf _ _ qA).trans qN
 have v4 : w2.frozen? ⟨w.heap.size + 1 + 1, 0, none⟩ = false := (hf _ _ qA).trans qN
 have v5 : w2.frozen? ⟨w.heap.size + 1 + 1, 1, none⟩ = false := (hf _ _ qA).trans qN
 have hk0 : w.heap.size < w2.heap.size := by omega
 have hk1 : w.heap.size + 1 < w2.heap.size := by omega
 have hk2 : w.heap.size + 1 + 1 < w2.heap.size := by omega
 have hsw := HSW.out
 clear hc hf hb s0_0 s0_1 s1_0 s1_1 s2_0 s2_1 f2_0 f2_1 f0_0 f0_1 f1_0 f1_1
 go_wp2_with fail
 have hw3 : ∃ w3, w3 = w2.alloc (.cells #[.int .i64 1] 2) := ⟨_, rfl⟩
 obtain ⟨w3, hw3⟩ := hw3
 rw [← hw3]
 have HB3 : Below w.heap.size w w3 := by rw [hw3]; go_grown
 have p0 : w3.cell? ⟨w.heap.size, 0, none⟩ = some (.bool g) := by rw [hw3]; simp [*, go_sem]
 have p1 : w3.cell? ⟨w.heap.size, 1, none⟩ = some (.slice a n c) := by rw [hw3]; simp [*, go_sem]
 have p3 : w3.cell? ⟨w.heap.size + 1, 1, none⟩ = some (.slice a' n' c') := by rw [hw3]; simp [*, go_sem]
 have p4 : w3.cell? ⟨w.heap.size + 1 + 1, 0, none⟩ = some (.bool false) := by rw [hw3]; simp [*, go_sem]
 have p5 : w3.cell? ⟨w.heap.size + 1 + 1, 1, none⟩ = some (.slice none 0 0) := by rw [hw3]; simp [*, go_sem]
 have p6 : w3.cell? ⟨w2.heap.size, 0, none⟩ = some (.int .i64 1) := by rw [hw3]; simp [go_sem]
 have p7 : w3.frozen? ⟨w.heap.size + 1 + 1, 0, none⟩ = false := by rw [hw3]; simp [*, go_sem]
 have p8 : w3.frozen? ⟨w.heap.size + 1 + 1, 1, none⟩ = false := by rw [hw3]; simp [*, go_sem]
 have hz3 : w2.heap.size + 1 ≤ w3.heap.size := by rw [hw3]; simp
 clear hw3 u0 u1 u2 u3 u4 u5 v0 v1 v2 v3 v4 v5 HB HBz hsw
 have HB := HB3
 clear HB3
 have HDD : Hid (∀ i, i < n + 1 → -4000000000000000000 ≤ (fun i => lim (dg z.natAbs) i + lim (dg z'.natAbs) i) i ∧ (fun i => lim (dg z.natAbs) i + lim (dg z'.natAbs) i) i ≤ 4000000000000000000) := Ae (by intro i _; have h1 := h.rd.small i; have h2 := h'.rd.small i; show -4000000000000000000 ≤ lim (dg z.natAbs) i + lim (dg z'.natAbs) i ∧ lim (dg z.natAbs) i + lim (dg z'.natAbs) i ≤ 4000000000000000000; omega)
 go_region_held3 (fun W => W.cell? ⟨w.heap.size, 0, none⟩ = some (.bool g) ∧ W.cell? ⟨w.heap.size, 1, none⟩ = some (.slice a n c) ∧ W.cell? ⟨w.heap.size + 1, 1, none⟩ = some (.slice a' n' c') ∧ W.cell? ⟨w2.heap.size, 0, none⟩ = some (.int .i64 1)) (first | ((try dsimp only); (repeat' apply And.intro); all_goals (first | (with_reducible assumption) | (go_keep; done) | (simp [*, go_sem]; done)))) (first
  | (go_at_call 271; (refine (Ip _ _ (n + 1) (by first | omega | (rw [IntWalk.i64_in _ qB]; omega)) _ _ _ (fun i => lim (dg z.natAbs) i + lim (dg z'.natAbs) i) qB HDD.out (by intro i W hi hW; exact St W _ _ _ _ _ _ (dg z.natAbs) _ _ _ (dg z'.natAbs) i ((h.rd.keep qF).keep hW) ((h'.rd.keep qF).keep hW) (Au hW qM) (Au hW qM) (Au hW qM))).mono ?_); rintro e w4 ⟨ac, rfl, hr, hfr, hb⟩; obtain ⟨hc, hf⟩ := Ax hb; have hz := hb.size; (try simp only [Aj, Ak] at hz); replace HB := zD w hb; have q0 : w4.cell? ⟨w.heap.size, 0, none⟩ = some (.bool g) := (hc _ _ qA).trans qM; have q1 : w4.cell? ⟨w.heap.size, 1, none⟩ = some (.slice a n c) := (hc _ _ qA).trans qM; have q3 : w4.cell? ⟨w.heap.size + 1, 1, none⟩ = some (.slice a' n' c') := (hc _ _ qA).trans qM; have q4 : w4.cell? ⟨w.heap.size + 1 + 1, 0, none⟩ = some (.bool false) := (hc _ _ qA).trans qM; have q5 : w4.cell? ⟨w.heap.size + 1 + 1, 1, none⟩ = some (.slice none 0 0) := (hc _ _ qA).trans qM; have q6 : w4.cell? ⟨w2.heap.size, 0, none⟩ = some (.int .i64 1) := (hc _ _ qA).trans qM; have q7 : w4.frozen? ⟨w.heap.size + 1 + 1, 0, none⟩ = false := (hf _ _ qA).trans qM; have q8 : w4.frozen? ⟨w.heap.size + 1 + 1, 1, none⟩ = false := (hf _ _ qA).trans qM)
  | (go_at_call 102; (with_reducible refine (E6 _ g ac (n + 1) (n + 1) (fxI (n + 1) (Cl (fun i => lim (dg z.natAbs) i + lim (dg z'.natAbs) i) (n + 1))) hr (Lz _ _)).mono ?_); rintro e w5 ⟨g3, n3, rfl, hn3, hnum, hb⟩; obtain ⟨hc, hf⟩ := Ax hb; have hz := hb.size; replace HB := zD w hb; have r0 : w5.cell? ⟨w.heap.size, 0, none⟩ = some (.bool g) := (hc _ _ qA).trans qI; have r1 : w5.cell? ⟨w.heap.size, 1, none⟩ = some (.slice a n c) := (hc _ _ qA).trans qI; have r3 : w5.cell? ⟨w.heap.size + 1, 1, none⟩ = some (.slice a' n' c') := (hc _ _ qA).trans qI; have r4 : w5.cell? ⟨w.heap.size + 1 + 1, 0, none⟩ = some (.bool false) := (hc _ _ qA).trans qI; have r5 : w5.cell? ⟨w.heap.size + 1 + 1, 1, none⟩ = some (.slice none 0 0) := (hc _ _ qA).trans qI; have r6 : w5.cell? ⟨w2.heap.size, 0, none⟩ = some (.int .i64 1) := (hc _ _ qA).trans qI; have r7 : w5.frozen? ⟨w.heap.size + 1 + 1, 0, none⟩ = false := (hf _ _ qA).trans qI; have r8 : w5.frozen? ⟨w.heap.size + 1 + 1, 1, none⟩ = false := (hf _ _ qA).trans qI))
 go_wp2_with fail
 refine bodyPost_ret (v := .agg #[.bool g3, .slice ac n3 n3]) (by simp [results, Tryz.results227, go_sem, r4, r5]) rfl ?_
 have hfr5 : Av (w.heap.size + 1 + 1 + 1) w5 ac n3 := ((hfr.keep hb).less hn3).mono qA
 have hz' : z + z' = sgn g (val (fxI (n + 1) (Cl (fun i => lim (dg z.natAbs) i + lim (dg z'.natAbs) i) (n + 1)))) := by
  rw [Wm _ _ _ qB qB, Ky, Ba, Ba]
  ·exact qCy
  ·exact qDi
 exact qAy
theorem Vj (w : World) (g : Bool) (a : Option Addr) (n c : Nat) (z : Int) (h : A4 w g a n c z) (a' : Option Addr) (n' c' : Nat) (z' : Int) (h' : A4 w (!g) a' n' c' z')
  (hb1 : n < 35184372088831) (hb2 : n' < 35184372088831) (hsw : 0 ≤ Br (val (dg z.natAbs)) (val (dg z'.natAbs))) (hle : z'.natAbs ≤ z.natAbs) :
  Calls Tryz.prog 227 #[.agg #[.bool g, .slice a n c], .agg #[.bool (!g), .slice a' n' c']] w (C4 w (z + z')) := by
 have HB := Ac w.heap.size w
 have hlx := h.rd.len
 have hly := h'.rd.len
 have hll := Be hle
 have HSW := Ae hsw
 clear hsw
 go_enter Tryz.func227, Tryz.ntmps227
 go_wp2_with fail
 go_region_held3 (fun W => W.cell? ⟨w.heap.size, 0, none⟩ = some (.bool g) ∧ W.cell? ⟨w.heap.size, 1, none⟩ = some (.slice a n c) ∧ W.cell? ⟨w.heap.size + 1, 0, none⟩ = some (.bool (!g)) ∧ W.cell? ⟨w.heap.size + 1, 1, none⟩ = some (.slice a' n' c')) (first | ((try dsimp only); (repeat' apply And.intro); all_goals (first | (with_reducible assumption) | (go_keep; done) | (simp [*, go_sem]; done)))) (first
  | (go_at_call 95; (with_reducible refine (H3 _ g a n c z (h.keep qF)).mono ?_); rintro e w1 ⟨rfl, hb⟩; obtain ⟨hc, hf⟩ := Ax hb; have hz := hb.size; (try simp only [Aj, Ak] at hz); replace HB := zD w hb; obtain ⟨s0_0, s0_1⟩ := qX hc (w.heap.size) (.bool g) (.slice a n c); obtain ⟨s1_0, s1_1⟩ := qX hc (w.heap.size + 1) (.bool (!g)) (.slice a' n' c'); obtain ⟨s2_0, s2_1⟩ := qZ hc (w.heap.size + 1 + 1); obtain ⟨f2_0, f2_1⟩ := zA hf (w.heap.size + 1 + 1); obtain ⟨f0_0, f0_1⟩ := zA hf (w.heap.size); obtain ⟨f1_0, f1_1⟩ := zA hf (w.heap.size + 1))
  | (go_at_call 95; (with_reducible refine (H3 _ (!g) a' n' c' z' (h'.keep qF)).mono ?_); rintro e w1 ⟨rfl, hb⟩; obtain ⟨hc, hf⟩ := Ax hb; have hz := hb.size; (try simp only [Aj, Ak] at hz); replace HB := zD w hb; obtain ⟨s0_0, s0_1⟩ := qX hc (w.heap.size) (.bool g) (.slice a n c); obtain ⟨s1_0, s1_1⟩ := qX hc (w.heap.size + 1) (.bool (!g)) (.slice a' n' c'); obtain ⟨s2_0, s2_1⟩ := qZ hc (w.heap.size + 1 + 1); obtain ⟨f2_0, f2_1⟩ := zA hf (w.heap.size + 1 + 1); obtain ⟨f0_0, f0_1⟩ := zA hf (w.heap.size); obtain ⟨f1_0, f1_1⟩ := zA hf (w.heap.size + 1)))
 replace HB : Below w.heap.size w ((((w1.setCell ⟨w.heap.size, 0, none⟩ (.bool g)).setCell ⟨w.heap.size, 1, none⟩ (.slice a n c)).setCell ⟨w.heap.size + 1, 0, none⟩ (.bool (!g))).setCell ⟨w.heap.size + 1, 1, none⟩ (.slice a' n' c')) := by go_grown
 go_wp2_with fail
 refine (Ek _ _ _ _ (dg z.natAbs) _ _ _ (dg z'.natAbs) (h.rd.keep HB) (h'.rd.keep HB) (Bp _) (Bp _)).mono ?_
 rintro e w2 ⟨rfl, hb⟩
 obtain ⟨hc, hf⟩ := Ax hb
 have hz := hb.size
 simp only [Am] at hz
 replace HB : Below w.heap.size w w2 := Al HB (hb.mono HB.size)
 have HBz := HB.size
 have u0 : w2.cell? ⟨w.heap.size, 0, none⟩ = some (.bool g) := (hc _ _ qA).trans qN
 have u1 : w2.cell? ⟨w.heap.size, 1, none⟩ = some (.slice a n c) := (hc _ _ qA).trans qN
 have u2 : w2.cell? ⟨w.heap.size + 1, 0, none⟩ = some (.bool (!g)) := (hc _ _ qA).trans qN
 have u3 : w2.cell? ⟨w.heap.size + 1, 1, none⟩ = some (.slice a' n' c') := (hc _ _ qA).trans qN
 have u4 : w2.cell? ⟨w.heap.size + 1 + 1, 0, none⟩ = some (.bool false) := (hc _ _ qA).trans qN
 have u5 : w2.cell? ⟨w.heap.size + 1 + 1, 1, none⟩ = some (.slice none 0 0) := (hc _ _ qA).trans qN
 have v0 : w2.frozen? ⟨w.heap.size, 0, none⟩ = false := (hf _ _ qA).trans qN
 have v1 : w2.frozen? ⟨w.heap.size, 1, none⟩ = false := (hf _ _ qA).trans qN
 have v2 : w2.frozen? ⟨w.heap.size + 1, 0, none⟩ = false := (hf _ _ qA).trans qN
 have v3 : w2.frozen? ⟨w.heap.size + 1, 1, none⟩ = false := (hf _ _ qA).trans qN
 have v4 : w2.frozen? ⟨w.heap.size + 1 + 1, 0, none⟩ = false := (hf _ _ qA).trans qN
 have v5 : w2.frozen? ⟨w.heap.size + 1 + 1, 1, none⟩ = false := (hf _ _ qA).trans qN
 have hk0 : w.heap.size < w2.heap.size := by omega
 have hk1 : w.heap.size + 1 < w2.heap.size := by omega
 have hk2 : w.heap.size + 1 + 1 < w2.heap.size := by omega
 have hsw := HSW.out
 clear hc hf hb s0_0 s0_1 s1_0 s1_1 s2_0 s2_1 f2_0 f2_1 f0_0 f0_1 f1_0 f1_1
 go_wp2_with fail
 have hw3 : ∃ w3, w3 = w2.alloc (.cells #[.int .i64 (-1)] 2) := ⟨_, rfl⟩
 obtain ⟨w3, hw3⟩ := hw3
 rw [← hw3]
 have HB3 : Below w.heap.size w w3 := by rw [hw3]; go_grown
 have p0 : w3.cell? ⟨w.heap.size, 0, none⟩ = some (.bool g) := by rw [hw3]; simp [*, go_sem]
 have p1 : w3.cell? ⟨w.heap.size, 1, none⟩ = some (.slice a n c) := by rw [hw3]; simp [*, go_sem]
 have p3 : w3.cell? ⟨w.heap.size + 1, 1, none⟩ = some (.slice a' n' c') := by rw [hw3]; simp [*, go_sem]
 have p4 : w3.cell? ⟨w.heap.size + 1 + 1, 0, none⟩ = some (.bool false) := by rw [hw3]; simp [*, go_sem]
 have p5 : w3.cell? ⟨w.heap.size + 1 + 1, 1, none⟩ = some (.slice none 0 0) := by rw [hw3]; simp [*, go_sem]
 have p6 : w3.cell? ⟨w2.heap.size, 0, none⟩ = some (.int .i64 (-1)) := by rw [hw3]; simp [go_sem]
 have p7 : w3.frozen? ⟨w.heap.size + 1 + 1, 0, none⟩ = false := by rw [hw3]; simp [*, go_sem]
 have p8 : w3.frozen? ⟨w.heap.size + 1 + 1, 1, none⟩ = false := by rw [hw3]; simp [*, go_sem]
 have hz3 : w2.heap.size + 1 ≤ w3.heap.size := by rw [hw3]; simp
 clear hw3 u0 u1 u2 u3 u4 u5 v0 v1 v2 v3 v4 v5 HB HBz hsw
 have HB := HB3
 clear HB3
 have HDD : Hid (∀ i, i < n + 1 → -4000000000000000000 ≤ (fun i => lim (dg z.natAbs) i - lim (dg z'.natAbs) i) i ∧ (fun i => lim (dg z.natAbs) i - lim (dg z'.natAbs) i) i ≤ 4000000000000000000) := Ae (by intro i _; have h1 := h.rd.small i; have h2 := h'.rd.small i; show -4000000000000000000 ≤ lim (dg z.natAbs) i - lim (dg z'.natAbs) i ∧ lim (dg z.natAbs) i - lim (dg z'.natAbs) i ≤ 4000000000000000000; omega)
 go_region_held3 (fun W => W.cell? ⟨w.heap.size, 0, none⟩ = some (.bool g) ∧ W.cell? ⟨w.heap.size, 1, none⟩ = some (.slice a n c) ∧ W.cell? ⟨w.heap.size + 1, 1, none⟩ = some (.slice a' n' c') ∧ W.cell? ⟨w2.heap.size, 0, none⟩ = some (.int .i64 (-1))) (first | ((try dsimp only); (repeat' apply And.intro); all_goals (first | (with_reducible assumption) | (go_keep; done) | (simp [*, go_sem]; done)))) (first
  | (go_at_call 271; (refine (Ip _ _ (n + 1) (by first | omega | (rw [IntWalk.i64_in _ qB]; omega)) _ _ _ (fun i => lim (dg z.natAbs) i - lim (dg z'.natAbs) i) qB HDD.out (by intro i W hi hW; exact Sb W _ _ _ _ _ _ (dg z.natAbs) _ _ _ (dg z'.natAbs) i ((h.rd.keep qF).keep hW) ((h'.rd.keep qF).keep hW) (Au hW qM) (Au hW qM) (Au hW qM))).mono ?_); rintro e w4 ⟨ac, rfl, hr, hfr, hb⟩; obtain ⟨hc, hf⟩ := Ax hb; have hz := hb.size; (try simp only [Aj, Ak] at hz); replace HB := zD w hb; have q0 : w4.cell? ⟨w.heap.size, 0, none⟩ = some (.bool g) := (hc _ _ qA).trans qM; have q1 : w4.cell? ⟨w.heap.size, 1, none⟩ = some (.slice a n c) := (hc _ _ qA).trans qM; have q3 : w4.cell? ⟨w.heap.size + 1, 1, none⟩ = some (.slice a' n' c') := (hc _ _ qA).trans qM; have q4 : w4.cell? ⟨w.heap.size + 1 + 1, 0, none⟩ = some (.bool false) := (hc _ _ qA).trans qM; have q5 : w4.cell? ⟨w.heap.size + 1 + 1, 1, none⟩ = some (.slice none 0 0) := (hc _ _ qA).trans qM; have q6 : w4.cell? ⟨w2.heap.size, 0, none⟩ = some (.int .i64 (-1)) := (hc _ _ qA).trans qM; have q7 : w4.frozen? ⟨w.heap.size + 1 + 1, 0, none⟩ = false := (hf _ _ qA).trans qM; have q8 : w4.frozen? ⟨w.heap.size + 1 + 1, 1, none⟩ = false := (hf _ _ qA).trans qM)
  | (go_at_call 102; (with_reducible refine (E6 _ g ac (n + 1) (n + 1) (fxI (n + 1) (Cl (fun i => lim (dg z.natAbs) i - lim (dg z'.natAbs) i) (n + 1))) hr (Lz _ _)).mono ?_); rintro e w5 ⟨g3, n3, rfl, hn3, hnum, hb⟩; obtain ⟨hc, hf⟩ := Ax hb; have hz := hb.size; replace HB := zD w hb; have r0 : w5.cell? ⟨w.heap.size, 0, none⟩ = some (.bool g) := (hc _ _ qA).trans qI; have r1 : w5.cell? ⟨w.heap.size, 1, none⟩ = some (.slice a n c) := (hc _ _ qA).trans qI; have r3 : w5.cell? ⟨w.heap.size + 1, 1, none⟩ = some (.slice a' n' c') := (hc _ _ qA).trans qI; have r4 : w5.cell? ⟨w.heap.size + 1 + 1, 0, none⟩ = some (.bool false) := (hc _ _ qA).trans qI; have r5 : w5.cell? ⟨w.heap.size + 1 + 1, 1, none⟩ = some (.slice none 0 0) := (hc _ _ qA).trans qI; have r6 : w5.cell? ⟨w2.heap.size, 0, none⟩ = some (.int .i64 (-1)) := (hc _ _ qA).trans qI; have r7 : w5.frozen? ⟨w.heap.size + 1 + 1, 0, none⟩ = false := (hf _ _ qA).trans qI; have r8 : w5.frozen? ⟨w.heap.size + 1 + 1, 1, none⟩ = false := (hf _ _ qA).trans qI))
 go_wp2_with fail
 refine bodyPost_ret (v := .agg #[.bool g3, .slice ac n3 n3]) (by simp [results, Tryz.results227, go_sem, r4, r5]) rfl ?_
 have hfr5 : Av (w.heap.size + 1 + 1 + 1) w5 ac n3 := ((hfr.keep hb).less hn3).mono qA
 have hz' : z + z' = sgn g (val (fxI (n + 1) (Cl (fun i => lim (dg z.natAbs) i - lim (dg z'.natAbs) i) (n + 1)))) := by
  rw [Wl _ _ _ qB qB (by rw [Ba, Ba]; exact hle), Ky, Ba, Ba]
  ·exact qCy
  ·exact qDi
 exact qAy
theorem Ve (w : World) (g : Bool) (a : Option Addr) (n c : Nat) (z : Int) (h : A4 w g a n c z) (a' : Option Addr) (n' c' : Nat) (z' : Int) (h' : A4 w g a' n' c' z')
  (hb1 : n < 35184372088831) (hb2 : n' < 35184372088831) (hsw : Br (val (dg z.natAbs)) (val (dg z'.natAbs)) < 0) (hle : z.natAbs ≤ z'.natAbs) :
  Calls Tryz.prog 227 #[.agg #[.bool g, .slice a n c], .agg #[.bool g, .slice a' n' c']] w (C4 w (z + z')) := by
 have HB := Ac w.heap.size w
 have hlx := h'.rd.len
 have hly := h.rd.len
 have hll := Be hle
 have HSW := Ae hsw
 clear hsw
 go_enter Tryz.func227, Tryz.ntmps227
 go_wp2_with fail
 go_region_held3 (fun W => W.cell? ⟨w.heap.size, 0, none⟩ = some (.bool g) ∧ W.cell? ⟨w.heap.size, 1, none⟩ = some (.slice a n c) ∧ W.cell? ⟨w.heap.size + 1, 0, none⟩ = some (.bool g) ∧ W.cell? ⟨w.heap.size + 1, 1, none⟩ = some (.slice a' n' c')) (first | ((try dsimp only); (repeat' apply And.intro); all_goals (first | (with_reducible assumption) | (go_keep; done) | (simp [*, go_sem]; done)))) (first
  | (go_at_call 95; (with_reducible refine (H3 _ g a n c z (h.keep qF)).mono ?_); rintro e w1 ⟨rfl, hb⟩; obtain ⟨hc, hf⟩ := Ax hb; have hz := hb.size; (try simp only [Aj, Ak] at hz); replace HB := zD w hb; obtain ⟨s0_0, s0_1⟩ := qX hc (w.heap.size) (.bool g) (.slice a n c); obtain ⟨s1_0, s1_1⟩ := qX hc (w.heap.size + 1) (.bool g) (.slice a' n' c'); obtain ⟨s2_0, s2_1⟩ := qZ hc (w.heap.size + 1 + 1); obtain ⟨f2_0, f2_1⟩ := zA hf (w.heap.size + 1 + 1); obtain ⟨f0_0, f0_1⟩ := zA hf (w.heap.size); obtain ⟨f1_0, f1_1⟩ := zA hf (w.heap.size + 1))
  | (go_at_call 95; (with_reducible refine (H3 _ g a' n' c' z' (h'.keep qF)).mono ?_); rintro e w1 ⟨rfl, hb⟩; obtain ⟨hc, hf⟩ := Ax hb; have hz := hb.size; (try simp only [Aj, Ak] at hz); replace HB := zD w hb; obtain ⟨s0_0, s0_1⟩ := qX hc (w.heap.size) (.bool g) (.slice a n c); obtain ⟨s1_0, s1_1⟩ := qX hc (w.heap.size + 1) (.bool g) (.slice a' n' c'); obtain ⟨s2_0, s2_1⟩ := qZ hc (w.heap.size + 1 + 1); obtain ⟨f2_0, f2_1⟩ := zA hf (w.heap.size + 1 + 1); obtain ⟨f0_0, f0_1⟩ := zA hf (w.heap.size); obtain ⟨f1_0, f1_1⟩ := zA hf (w.heap.size + 1)))
 replace HB : Below w.heap.size w ((((w1.setCell ⟨w.heap.size, 0, none⟩ (.bool g)).setCell ⟨w.heap.size, 1, none⟩ (.slice a n c)).setCell ⟨w.heap.size + 1, 0, none⟩ (.bool g)).setCell ⟨w.heap.size + 1, 1, none⟩ (.slice a' n' c')) := by go_grown
 go_wp2_with fail
 refine (Ek _ _ _ _ (dg z.natAbs) _ _ _ (dg z'.natAbs) (h.rd.keep HB) (h'.rd.keep HB) (Bp _) (Bp _)).mono ?_
 rintro e w2 ⟨rfl, hb⟩
 obtain ⟨hc, hf⟩ := Ax hb
 have hz := hb.size
 simp only [Am] at hz
 replace HB : Below w.heap.size w w2 := Al HB (hb.mono HB.size)
 have HBz := HB.size
 have u0 : w2.cell? ⟨w.heap.size, 0, none⟩ = some (.bool g) := (hc _ _ qA).trans qN
 have u1 : w2.cell? ⟨w.heap.size, 1, none⟩ = some (.slice a n c) := (hc _ _ qA).trans qN
 have u2 : w2.cell? ⟨w.heap.size + 1, 0, none⟩ = some (.bool g) := (hc _ _ qA).trans qN
 have u3 : w2.cell? ⟨w.heap.size + 1, 1, none⟩ = some (.slice a' n' c') := (hc _ _ qA).trans qN
 have u4 : w2.cell? ⟨w.heap.size + 1 + 1, 0, none⟩ = some (.bool false) := (hc _ _ qA).trans qN
 have u5 : w2.cell? ⟨w.heap.size + 1 + 1, 1, none⟩ = some (.slice none 0 0) := (hc _ _ qA).trans qN
 have v0 : w2.frozen? ⟨w.heap.size, 0, none⟩ = false := (hf _ _ qA).trans qN
 have v1 : w2.frozen? ⟨w.heap.size, 1, none⟩ = false := (hf _ _ qA).trans qN
 have v2 : w2.frozen? ⟨w.heap.size + 1, 0, none⟩ = false := (hf _ _ qA).trans qN
 have v3 : w2.frozen? ⟨w.heap.size + 1, 1, none⟩ = false := (hf _ _ qA).trans qN
 have v4 : w2.frozen? ⟨w.heap.size + 1 + 1, 0, none⟩ = false := (hf _ _ qA).trans qN
 have v5 : w2.frozen? ⟨w.heap.size + 1 + 1, 1, none⟩ = false := (hf _ _ qA).trans qN
 have hk0 : w.heap.size < w2.heap.size := by omega
 have hk1 : w.heap.size + 1 < w2.heap.size := by omega
 have hk2 : w.heap.size + 1 + 1 < w2.heap.size := by omega
 have hsw := HSW.out
 clear hc hf hb s0_0 s0_1 s1_0 s1_1 s2_0 s2_1 f2_0 f2_1 f0_0 f0_1 f1_0 f1_1
 go_wp2_with fail
 have hw3 : ∃ w3, w3 = ((((w2.setCell ⟨w.heap.size, 0, none⟩ (.bool g)).setCell ⟨w.heap.size, 1, none⟩ (.slice a' n' c')).setCell ⟨w.heap.size + 1, 0, none⟩ (.bool g)).setCell ⟨w.heap.size + 1, 1, none⟩ (.slice a n c)).alloc (.cells #[.int .i64 1] 2) := ⟨_, rfl⟩
 obtain ⟨w3, hw3⟩ := hw3
 rw [← hw3]
 have HB3 : Below w.heap.size w w3 := by rw [hw3]; go_grown
 have p0 : w3.cell? ⟨w.heap.size, 0, none⟩ = some (.bool g) := by rw [hw3]; simp [*, go_sem]
 have p1 : w3.cell? ⟨w.heap.size, 1, none⟩ = some (.slice a' n' c') := by rw [hw3]; simp [*, go_sem]
 have p3 : w3.cell? ⟨w.heap.size + 1, 1, none⟩ = some (.slice a n c) := by rw [hw3]; simp [*, go_sem]
 have p4 : w3.cell? ⟨w.heap.size + 1 + 1, 0, none⟩ = some (.bool false) := by rw [hw3]; simp [*, go_sem]
 have p5 : w3.cell? ⟨w.heap.size + 1 + 1, 1, none⟩ = some (.slice none 0 0) := by rw [hw3]; simp [*, go_sem]
 have p6 : w3.cell? ⟨w2.heap.size, 0, none⟩ = some (.int .i64 1) := by rw [hw3]; simp [go_sem]
 have p7 : w3.frozen? ⟨w.heap.size + 1 + 1, 0, none⟩ = false := by rw [hw3]; simp [*, go_sem]
 have p8 : w3.frozen? ⟨w.heap.size + 1 + 1, 1, none⟩ = false := by rw [hw3]; simp [*, go_sem]
 have hz3 : w2.heap.size + 1 ≤ w3.heap.size := by rw [hw3]; simp
 clear hw3 u0 u1 u2 u3 u4 u5 v0 v1 v2 v3 v4 v5 HB HBz hsw
 have HB := HB3
 clear HB3
 have HDD : Hid (∀ i, i < n' + 1 → -4000000000000000000 ≤ (fun i => lim (dg z'.natAbs) i + lim (dg z.natAbs) i) i ∧ (fun i => lim (dg z'.natAbs) i + lim (dg z.natAbs) i) i ≤ 4000000000000000000) := Ae (by intro i _; have h1 := h'.rd.small i; have h2 := h.rd.small i; show -4000000000000000000 ≤ lim (dg z'.natAbs) i + lim (dg z.natAbs) i ∧ lim (dg z'.natAbs) i + lim (dg z.natAbs) i ≤ 4000000000000000000; omega)
 go_region_held3 (fun W => W.cell? ⟨w.heap.size, 0, none⟩ = some (.bool g) ∧ W.cell? ⟨w.heap.size, 1, none⟩ = some (.slice a' n' c') ∧ W.cell? ⟨w.heap.size + 1, 1, none⟩ = some (.slice a n c) ∧ W.cell? ⟨w2.heap.size, 0, none⟩ = some (.int .i64 1)) (first | ((try dsimp only); (repeat' apply And.intro); all_goals (first | (with_reducible assumption) | (go_keep; done) | (simp [*, go_sem]; done)))) (first
  | (go_at_call 271; (refine (Ip _ _ (n' + 1) (by first | omega | (rw [IntWalk.i64_in _ qB]; omega)) _ _ _ (fun i => lim (dg z'.natAbs) i + lim (dg z.natAbs) i) qB HDD.out (by intro i W hi hW; exact St W _ _ _ _ _ _ (dg z'.natAbs) _ _ _ (dg z.natAbs) i ((h'.rd.keep qF).keep hW) ((h.rd.keep qF).keep hW) (Au hW qM) (Au hW qM) (Au hW qM))).mono ?_); rintro e w4 ⟨ac, rfl, hr, hfr, hb⟩; obtain ⟨hc, hf⟩ := Ax hb; have hz := hb.size; (try simp only [Aj, Ak] at hz); replace HB := zD w hb; have q0 : w4.cell? ⟨w.heap.size, 0, none⟩ = some (.bool g) := (hc _ _ qA).trans qM; have q1 : w4.cell? ⟨w.heap.size, 1, none⟩ = some (.slice a' n' c') := (hc _ _ qA).trans qM; have q3 : w4.cell? ⟨w.heap.size + 1, 1, none⟩ = some (.slice a n c) := (hc _ _ qA).trans qM; have q4 : w4.cell? ⟨w.heap.size + 1 + 1, 0, none⟩ = some (.bool false) := (hc _ _ qA).trans qM; have q5 : w4.cell? ⟨w.heap.size + 1 + 1, 1, none⟩ = some (.slice none 0 0) := (hc _ _ qA).trans qM; have q6 : w4.cell? ⟨w2.heap.size, 0, none⟩ = some (.int .i64 1) := (hc _ _ qA).trans qM; have q7 : w4.frozen? ⟨w.heap.size + 1 + 1, 0, none⟩ = false := (hf _ _ qA).trans qM; have q8 : w4.frozen? ⟨w.heap.size + 1 + 1, 1, none⟩ = false := (hf _ _ qA).trans qM)
  | (go_at_call 102; (with_reducible refine (E6 _ g ac (n' + 1) (n' + 1) (fxI (n' + 1) (Cl (fun i => lim (dg z'.natAbs) i + lim (dg z.natAbs) i) (n' + 1))) hr (Lz _ _)).mono ?_); rintro e w5 ⟨g3, n3, rfl, hn3, hnum, hb⟩; obtain ⟨hc, hf⟩ := Ax hb; have hz := hb.size; replace HB := zD w hb; have r0 : w5.cell? ⟨w.heap.size, 0, none⟩ = some (.bool g) := (hc _ _ qA).trans qI; have r1 : w5.cell? ⟨w.heap.size, 1, none⟩ = some (.slice a' n' c') := (hc _ _ qA).trans qI; have r3 : w5.cell? ⟨w.heap.size + 1, 1, none⟩ = some (.slice a n c) := (hc _ _ qA).trans qI; have r4 : w5.cell? ⟨w.heap.size + 1 + 1, 0, none⟩ = some (.bool false) := (hc _ _ qA).trans qI; have r5 : w5.cell? ⟨w.heap.size + 1 + 1, 1, none⟩ = some (.slice none 0 0) := (hc _ _ qA).trans qI; have r6 : w5.cell? ⟨w2.heap.size, 0, none⟩ = some (.int .i64 1) := (hc _ _ qA).trans qI; have r7 : w5.frozen? ⟨w.heap.size + 1 + 1, 0, none⟩ = false := (hf _ _ qA).trans qI; have r8 : w5.frozen? ⟨w.heap.size + 1 + 1, 1, none⟩ = false := (hf _ _ qA).trans qI))
 go_wp2_with fail
 refine bodyPost_ret (v := .agg #[.bool g3, .slice ac n3 n3]) (by simp [results, Tryz.results227, go_sem, r4, r5]) rfl ?_
 have hfr5 : Av (w.heap.size + 1 + 1 + 1) w5 ac n3 := ((hfr.keep hb).less hn3).mono qA
 have hz' : z + z' = sgn g (val (fxI (n' + 1) (Cl (fun i => lim (dg z'.natAbs) i + lim (dg z.natAbs) i) (n' + 1)))) := by
  rw [Wm _ _ _ qB qB, Ky, Ba, Ba]
  ·exact qCy
  ·exact qDf
 exact qAy
theorem Uc (w : World) (g : Bool) (a : Option Addr) (n c : Nat) (z : Int) (h : A4 w g a n c z) (a' : Option Addr) (n' c' : Nat) (z' : Int) (h' : A4 w (!g) a' n' c' z')
  (hb1 : n < 35184372088831) (hb2 : n' < 35184372088831) (hsw : Br (val (dg z.natAbs)) (val (dg z'.natAbs)) < 0) (hle : z.natAbs ≤ z'.natAbs) :
  Calls Tryz.prog 227 #[.agg #[.bool g, .slice a n c], .agg #[.bool (!g), .slice a' n' c']] w (C4 w (z + z')) := by
 have HB := Ac w.heap.size w
 have hlx := h'.rd.len
 have hly := h.rd.len
 have hll := Be hle
 have HSW := Ae hsw
 clear hsw
 go_enter Tryz.func227, Tryz.ntmps227
 go_wp2_with fail
 go_region_held3 (fun W => W.cell? ⟨w.heap.size, 0, none⟩ = some (.bool g) ∧ W.cell? ⟨w.heap.size, 1, none⟩ = some (.slice a n c) ∧ W.cell? ⟨w.heap.size + 1, 0, none⟩ = some (.bool (!g)) ∧ W.cell? ⟨w.heap.size + 1, 1, none⟩ = some (.slice a' n' c')) (first | ((try dsimp only); (repeat' apply And.intro); all_goals (first | (with_reducible assumption) | (go_keep; done) | (simp [*, go_sem]; done)))) (first
  | (go_at_call 95; (with_reducible refine (H3 _ g a n c z (h.keep qF)).mono ?_); rintro e w1 ⟨rfl, hb⟩; obtain ⟨hc, hf⟩ := Ax hb; have hz := hb.size; (try simp only [Aj, Ak] at hz); replace HB := zD w hb; obtain ⟨s0_0, s0_1⟩ := qX hc (w.heap.size) (.bool g) (.slice a n c); obtain ⟨s1_0, s1_1⟩ := qX hc (w.heap.size + 1) (.bool (!g)) (.slice a' n' c'); obtain ⟨s2_0, s2_1⟩ := qZ hc (w.heap.size + 1 + 1); obtain ⟨f2_0, f2_1⟩ := zA hf (w.heap.size + 1 + 1); obtain ⟨f0_0, f0_1⟩ := zA hf (w.heap.size); obtain ⟨f1_0, f1_1⟩ := zA hf (w.heap.size + 1))
  | (go_at_call 95; (with_reducible refine (H3 _ (!g) a' n' c' z' (h'.keep qF)).mono ?_); rintro e w1 ⟨rfl, hb⟩; obtain ⟨hc, hf⟩ := Ax hb; have hz := hb.size; (try simp only [Aj, Ak] at hz); replace HB := zD w hb; obtain ⟨s0_0, s0_1⟩ := qX hc (w.heap.size) (.bool g) (.slice a n c); obtain ⟨s1_0, s1_1⟩ := qX hc (w.heap.size + 1) (.bool (!g)) (.slice a' n' c'); obtain ⟨s2_0, s2_1⟩ := qZ hc (w.heap.size + 1 + 1); obtain ⟨f2_0, f2_1⟩ := zA hf (w.heap.size + 1 + 1); obtain ⟨f0_0, f0_1⟩ := zA hf (w.heap.size); obtain ⟨f1_0, f1_1⟩ := zA hf (w.heap.size + 1)))
 replace HB : Below w.heap.size w ((((w1.setCell ⟨w.heap.size, 0, none⟩ (.bool g)).setCell ⟨w.heap.size, 1, none⟩ (.slice a n c)).setCell ⟨w.heap.size + 1, 0, none⟩ (.bool (!g))).setCell ⟨w.heap.size + 1, 1, none⟩ (.slice a' n' c')) := by go_grown
 go_wp2_with fail
 refine (Ek _ _ _ _ (dg z.natAbs) _ _ _ (dg z'.natAbs) (h.rd.keep HB) (h'.rd.keep HB) (Bp _) (Bp _)).mono ?_
 rintro e w2 ⟨rfl, hb⟩
 obtain ⟨hc, hf⟩ := Ax hb
 have hz := hb.size
 simp only [Am] at hz
 replace HB : Below w.heap.size w w2 := Al HB (hb.mono HB.size)
 have HBz := HB.size
 have u0 : w2.cell? ⟨w.heap.size, 0, none⟩ = some (.bool g) := (hc _ _ qA).trans qN
 have u1 : w2.cell? ⟨w.heap.size, 1, none⟩ = some (.slice a n c) := (hc _ _ qA).trans qN
 have u2 : w2.cell? ⟨w.heap.size + 1, 0, none⟩ = some (.bool (!g)) := (hc _ _ qA).trans qN
 have u3 : w2.cell? ⟨w.heap.size + 1, 1, none⟩ = some (.slice a' n' c') := (hc _ _ qA).trans qN
 have u4 : w2.cell? ⟨w.heap.size + 1 + 1, 0, none⟩ = some (.bool false) := (hc _ _ qA).trans qN
 have u5 : w2.cell? ⟨w.heap.size + 1 + 1, 1, none⟩ = some (.slice none 0 0) := (hc _ _ qA).trans qN
 have v0 : w2.frozen? ⟨w.heap.size, 0, none⟩ = false := (hf _ _ qA).trans qN
 have v1 : w2.frozen? ⟨w.heap.size, 1, none⟩ = false := (hf _ _ qA).trans qN
 have v2 : w2.frozen? ⟨w.heap.size + 1, 0, none⟩ = false := (hf _ _ qA).trans qN
 have v3 : w2.frozen? ⟨w.heap.size + 1, 1, none⟩ = false := (hf _ _ qA).trans qN
 have v4 : w2.frozen? ⟨w.heap.size + 1 + 1, 0, none⟩ = false := (hf _ _ qA).trans qN
 have v5 : w2.frozen? ⟨w.heap.size + 1 + 1, 1, none⟩ = false := (hf _ _ qA).trans qN
 have hk0 : w.heap.size < w2.heap.size := by omega
 have hk1 : w.heap.size + 1 < w2.heap.size := by omega
 have hk2 : w.heap.size + 1 + 1 < w2.heap.size := by omega
 have hsw := HSW.out
 clear hc hf hb s0_0 s0_1 s1_0 s1_1 s2_0 s2_1 f2_0 f2_1 f0_0 f0_1 f1_0 f1_1
 go_wp2_with fail
 have hw3 : ∃ w3, w3 = ((((w2.setCell ⟨w.heap.size, 0, none⟩ (.bool (!g))).setCell ⟨w.heap.size, 1, none⟩ (.slice a' n' c')).setCell ⟨w.heap.size + 1, 0, none⟩ (.bool g)).setCell ⟨w.heap.size + 1, 1, none⟩ (.slice a n c)).alloc (.cells #[.int .i64 (-1)] 2) := ⟨_, rfl⟩
 obtain ⟨w3, hw3⟩ := hw3
 rw [← hw3]
 have HB3 : Below w.heap.size w w3 := by rw [hw3]; go_grown
 have p0 : w3.cell? ⟨w.heap.size, 0, none⟩ = some (.bool (!g)) := by rw [hw3]; simp [*, go_sem]
 have p1 : w3.cell? ⟨w.heap.size, 1, none⟩ = some (.slice a' n' c') := by rw [hw3]; simp [*, go_sem]
 have p3 : w3.cell? ⟨w.heap.size + 1, 1, none⟩ = some (.slice a n c) := by rw [hw3]; simp [*, go_sem]
 have p4 : w3.cell? ⟨w.heap.size + 1 + 1, 0, none⟩ = some (.bool false) := by rw [hw3]; simp [*, go_sem]
 have p5 : w3.cell? ⟨w.heap.size + 1 + 1, 1, none⟩ = some (.slice none 0 0) := by rw [hw3]; simp [*, go_sem]
 have p6 : w3.cell? ⟨w2.heap.size, 0, none⟩ = some (.int .i64 (-1)) := by rw [hw3]; simp [go_sem]
 have p7 : w3.frozen? ⟨w.heap.size + 1 + 1, 0, none⟩ = false := by rw [hw3]; simp [*, go_sem]
 have p8 : w3.frozen? ⟨w.heap.size + 1 + 1, 1, none⟩ = false := by rw [hw3]; simp [*, go_sem]
 have hz3 : w2.heap.size + 1 ≤ w3.heap.size := by rw [hw3]; simp
 clear hw3 u0 u1 u2 u3 u4 u5 v0 v1 v2 v3 v4 v5 HB HBz hsw
 have HB := HB3
 clear HB3
 have HDD : Hid (∀ i, i < n' + 1 → -4000000000000000000 ≤ (fun i => lim (dg z'.natAbs) i - lim (dg z.natAbs) i) i ∧ (fun i => lim (dg z'.natAbs) i - lim (dg z.natAbs) i) i ≤ 4000000000000000000) := Ae (by intro i _; have h1 := h'.rd.small i; have h2 := h.rd.small i; show -4000000000000000000 ≤ lim (dg z'.natAbs) i - lim (dg z.natAbs) i ∧ lim (dg z'.natAbs) i - lim (dg z.natAbs) i ≤ 4000000000000000000; omega)
 go_region_held3 (fun W => W.cell? ⟨w.heap.size, 0, none⟩ = some (.bool (!g)) ∧ W.cell? ⟨w.heap.size, 1, none⟩ = some (.slice a' n' c') ∧ W.cell? ⟨w.heap.size + 1, 1, none⟩ = some (.slice a n c) ∧ W.cell? ⟨w2.heap.size, 0, none⟩ = some (.int .i64 (-1))) (first | ((try dsimp only); (repeat' apply And.intro); all_goals (first | (with_reducible assumption) | (go_keep; done) | (simp [*, go_sem]; done)))) (first
  | (go_at_call 271; (refine (Ip _ _ (n' + 1) (by first | omega | (rw [IntWalk.i64_in _ qB]; omega)) _ _ _ (fun i => lim (dg z'.natAbs) i - lim (dg z.natAbs) i) qB HDD.out (by intro i W hi hW; exact Sb W _ _ _ _ _ _ (dg z'.natAbs) _ _ _ (dg z.natAbs) i ((h'.rd.keep qF).keep hW) ((h.rd.keep qF).keep hW) (Au hW qM) (Au hW qM) (Au hW qM))).mono ?_); rintro e w4 ⟨ac, rfl, hr, hfr, hb⟩; obtain ⟨hc, hf⟩ := Ax hb; have hz := hb.size; (try simp only [Aj, Ak] at hz); replace HB := zD w hb; have q0 : w4.cell? ⟨w.heap.size, 0, none⟩ = some (.bool (!g)) := (hc _ _ qA).trans qM; have q1 : w4.cell? ⟨w.heap.size, 1, none⟩ = some (.slice a' n' c') := (hc _ _ qA).trans qM; have q3 : w4.cell? ⟨w.heap.size + 1, 1, none⟩ = some (.slice a n c) := (hc _ _ qA).trans qM; have q4 : w4.cell? ⟨w.heap.size + 1 + 1, 0, none⟩ = some (.bool false) := (hc _ _ qA).trans qM; have q5 : w4.cell? ⟨w.heap.size + 1 + 1, 1, none⟩ = some (.slice none 0 0) := (hc _ _ qA).trans qM; have q6 : w4.cell? ⟨w2.heap.size, 0, none⟩ = some (.int .i64 (-1)) := (hc _ _ qA).trans qM; have q7 : w4.frozen? ⟨w.heap.size + 1 + 1, 0, none⟩ = false := (hf _ _ qA).trans qM; have q8 : w4.frozen? ⟨w.heap.size + 1 + 1, 1, none⟩ = false := (hf _ _ qA).trans qM)
  | (go_at_call 102; (with_reducible refine (E6 _ (!g) ac (n' + 1) (n' + 1) (fxI (n' + 1) (Cl (fun i => lim (dg z'.natAbs) i - lim (dg z.natAbs) i) (n' + 1))) hr (Lz _ _)).mono ?_); rintro e w5 ⟨g3, n3, rfl, hn3, hnum, hb⟩; obtain ⟨hc, hf⟩ := Ax hb; have hz := hb.size; replace HB := zD w hb; have r0 : w5.cell? ⟨w.heap.size, 0, none⟩ = some (.bool (!g)) := (hc _ _ qA).trans qI; have r1 : w5.cell? ⟨w.heap.size, 1, none⟩ = some (.slice a' n' c') := (hc _ _ qA).trans qI; have r3 : w5.cell? ⟨w.heap.size + 1, 1, none⟩ = some (.slice a n c) := (hc _ _ qA).trans qI; have r4 : w5.cell? ⟨w.heap.size + 1 + 1, 0, none⟩ = some (.bool false) := (hc _ _ qA).trans qI; have r5 : w5.cell? ⟨w.heap.size + 1 + 1, 1, none⟩ = some (.slice none 0 0) := (hc _ _ qA).trans qI; have r6 : w5.cell? ⟨w2.heap.size, 0, none⟩ = some (.int .i64 (-1)) := (hc _ _ qA).trans qI; have r7 : w5.frozen? ⟨w.heap.size + 1 + 1, 0, none⟩ = false := (hf _ _ qA).trans qI; have r8 : w5.frozen? ⟨w.heap.size + 1 + 1, 1, none⟩ = false := (hf _ _ qA).trans qI))
 go_wp2_with fail
 refine bodyPost_ret (v := .agg #[.bool g3, .slice ac n3 n3]) (by simp [results, Tryz.results227, go_sem, r4, r5]) rfl ?_
 have hfr5 : Av (w.heap.size + 1 + 1 + 1) w5 ac n3 := ((hfr.keep hb).less hn3).mono qA
 have hz' : z + z' = sgn (!g) (val (fxI (n' + 1) (Cl (fun i => lim (dg z'.natAbs) i - lim (dg z.natAbs) i) (n' + 1)))) := by
  rw [Wl _ _ _ qB qB (by rw [Ba, Ba]; exact hle), Ky, Ba, Ba]
  ·exact qCy
  ·exact qDf
 exact qAy
theorem R8 (w : World) (g : Bool) (a : Option Addr) (n c : Nat) (z : Int) (h : A4 w g a n c z) (g' : Bool) (a' : Option Addr) (n' c' : Nat) (z' : Int) (h' : A4 w g' a' n' c' z')
  (hb1 : n < 35184372088831) (hb2 : n' < 35184372088831) :
  Calls Tryz.prog 227 #[.agg #[.bool g, .slice a n c], .agg #[.bool g', .slice a' n' c']] w (C4 w (z + z')) := by
 have key : (Br (val (dg z.natAbs)) (val (dg z'.natAbs)) < 0 ∧ z.natAbs ≤ z'.natAbs) ∨ (0 ≤ Br (val (dg z.natAbs)) (val (dg z'.natAbs)) ∧ z'.natAbs ≤ z.natAbs) := by
  rw [Ba, Ba]
  unfold Br
  rcases Int.lt_trichotomy (z.natAbs : Int) (z'.natAbs : Int) with hlt | heq | hgt
  ·left; rw [if_pos hlt]; omega
  ·right; rw [if_neg qB, if_pos heq]; omega
  ·right; rw [if_neg qB, if_neg qB]; omega
 rcases key with ⟨k1, k2⟩ | ⟨k1, k2⟩
 ·by_cases hg : g' = g
  ·subst hg; exact Ve w g' a n c z h a' n' c' z' h' hb1 hb2 k1 k2
  ·have hg2 : g' = !g := by cases g <;> cases g' <;> simp_all
   subst hg2; exact Uc w g a n c z h a' n' c' z' h' hb1 hb2 k1 k2
 ·by_cases hg : g' = g
  ·subst hg; exact Vn w g' a n c z h a' n' c' z' h' hb1 hb2 k1 k2
  ·have hg2 : g' = !g := by cases g <;> cases g' <;> simp_all
   subst hg2; exact Vj w g a n c z h a' n' c' z' h' hb1 hb2 k1 k2
end Go.Proofs.YtdamegaedmckbaaGreatDoor
end
