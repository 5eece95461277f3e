/- The document's answer, layer 2: Neg, Text. -/
import Derived.Test.YtdamegaedmckbaaGreatDoorQP16
set_option linter.unusedSimpArgs false
set_option linter.unusedVariables false
set_option maxRecDepth 100000
set_option maxHeartbeats 4000000
section
namespace Go.Proofs.YtdamegaedmckbaaGreatDoor
open Go.RowKit
def Hx (w : World) (p q : Int) (e : Ending) (w' : World) : Prop :=
 ∃ g1 a1 n1 c1 g2 a2 n2 c2, e = .returned (.agg #[.bool g1, .slice a1 n1 c1, .bool g2, .slice a2 n2 c2]) ∧ Bj w' g1 a1 n1 c1 p g2 a2 n2 c2 q ∧ Av w.heap.size w' a1 c1 ∧ Av w.heap.size w' a2 c2 ∧ Below w.heap.size w w'
theorem V5 (w : World) (g1 : Bool) (a1 : Option Addr) (n1 c1 : Nat) (p : Int) (g2 : Bool) (a2 : Option Addr) (n2 c2 : Nat) (q : Int) (h : Bj w g1 a1 n1 c1 p g2 a2 n2 c2 q) (hs : n2 < 35184372088829) (hb1 : n1 < 35184372088829) :
  Calls Tryz.prog 42 #[.agg #[.bool g1, .slice a1 n1 c1, .bool g2, .slice a2 n2 c2]] w (Hx w (-p) q) := by
 have HB := Ac w.heap.size w
 go_enter Tryz.func42, Tryz.ntmps42
 go_wp2_with fail
 refine (J6 _ _ _ _ _ _ _ _ _ _ _ (h.keep qF) hs hb1).mono ?_
 rintro e w1 ⟨rfl, hb⟩
 obtain ⟨hc, hf⟩ := Ax hb; have hz := hb.size; (try simp only [Aj, Ak] at hz)
 replace HB := zD w hb
 obtain ⟨s0_0, s0_1⟩ := qX hc (w.heap.size) (.bool g1) (.slice a1 n1 c1); obtain ⟨s0_2, s0_3⟩ := qY hc (w.heap.size) (.bool g2) (.slice a2 n2 c2); obtain ⟨s1_0, s1_1⟩ := qZ hc (w.heap.size + 1); obtain ⟨s1_2, s1_3⟩ := qY hc (w.heap.size + 1) (.bool false) (.slice none 0 0); obtain ⟨f1_0, f1_1⟩ := zA hf (w.heap.size + 1); obtain ⟨f1_2, f1_3⟩ := zB hf (w.heap.size + 1); obtain ⟨f0_0, f0_1⟩ := zA hf (w.heap.size); obtain ⟨f0_2, f0_3⟩ := zB hf (w.heap.size)
 have hk1 : w.heap.size + 1 < w1.heap.size := by omega
 have hk0 : w.heap.size < w1.heap.size := by omega
 clear hc hf hb hz
 go_upto_region 2 with fail
 have HB2 : Below w.heap.size w ((((w1.setCell ⟨w.heap.size, 0, none⟩ (.bool g1)).setCell ⟨w.heap.size, 1, none⟩ (.slice a1 n1 c1)).setCell ⟨w.heap.size, 2, none⟩ (.bool g2)).setCell ⟨w.heap.size, 3, none⟩ (.slice a2 n2 c2)) := by go_grown
 have hk2 : w.heap.size + 1 < ((((w1.setCell ⟨w.heap.size, 0, none⟩ (.bool g1)).setCell ⟨w.heap.size, 1, none⟩ (.slice a1 n1 c1)).setCell ⟨w.heap.size, 2, none⟩ (.bool g2)).setCell ⟨w.heap.size, 3, none⟩ (.slice a2 n2 c2)).heap.size := by simp; omega
 have t0_0 : ((((w1.setCell ⟨w.heap.size, 0, none⟩ (.bool g1)).setCell ⟨w.heap.size, 1, none⟩ (.slice a1 n1 c1)).setCell ⟨w.heap.size, 2, none⟩ (.bool g2)).setCell ⟨w.heap.size, 3, none⟩ (.slice a2 n2 c2)).cell? ⟨w.heap.size, 0, none⟩ = some (.bool g1) := by simp [*, go_sem]
 have t0_1 : ((((w1.setCell ⟨w.heap.size, 0, none⟩ (.bool g1)).setCell ⟨w.heap.size, 1, none⟩ (.slice a1 n1 c1)).setCell ⟨w.heap.size, 2, none⟩ (.bool g2)).setCell ⟨w.heap.size, 3, none⟩ (.slice a2 n2 c2)).cell? ⟨w.heap.size, 1, none⟩ = some (.slice a1 n1 c1) := by simp [*, go_sem]
 have t0_2 : ((((w1.setCell ⟨w.heap.size, 0, none⟩ (.bool g1)).setCell ⟨w.heap.size, 1, none⟩ (.slice a1 n1 c1)).setCell ⟨w.heap.size, 2, none⟩ (.bool g2)).setCell ⟨w.heap.size, 3, none⟩ (.slice a2 n2 c2)).cell? ⟨w.heap.size, 2, none⟩ = some (.bool g2) := by simp [*, go_sem]
 have t0_3 : ((((w1.setCell ⟨w.heap.size, 0, none⟩ (.bool g1)).setCell ⟨w.heap.size, 1, none⟩ (.slice a1 n1 c1)).setCell ⟨w.heap.size, 2, none⟩ (.bool g2)).setCell ⟨w.heap.size, 3, none⟩ (.slice a2 n2 c2)).cell? ⟨w.heap.size, 3, none⟩ = some (.slice a2 n2 c2) := by simp [*, go_sem]
 have t1_0 : ((((w1.setCell ⟨w.heap.size, 0, none⟩ (.bool g1)).setCell ⟨w.heap.size, 1, none⟩ (.slice a1 n1 c1)).setCell ⟨w.heap.size, 2, none⟩ (.bool g2)).setCell ⟨w.heap.size, 3, none⟩ (.slice a2 n2 c2)).cell? ⟨w.heap.size + 1, 0, none⟩ = some (.bool false) := by simp [*, go_sem]
 have v1_0 : ((((w1.setCell ⟨w.heap.size, 0, none⟩ (.bool g1)).setCell ⟨w.heap.size, 1, none⟩ (.slice a1 n1 c1)).setCell ⟨w.heap.size, 2, none⟩ (.bool g2)).setCell ⟨w.heap.size, 3, none⟩ (.slice a2 n2 c2)).frozen? ⟨w.heap.size + 1, 0, none⟩ = false := by simp [*, go_sem]
 have t1_1 : ((((w1.setCell ⟨w.heap.size, 0, none⟩ (.bool g1)).setCell ⟨w.heap.size, 1, none⟩ (.slice a1 n1 c1)).setCell ⟨w.heap.size, 2, none⟩ (.bool g2)).setCell ⟨w.heap.size, 3, none⟩ (.slice a2 n2 c2)).cell? ⟨w.heap.size + 1, 1, none⟩ = some (.slice none 0 0) := by simp [*, go_sem]
 have v1_1 : ((((w1.setCell ⟨w.heap.size, 0, none⟩ (.bool g1)).setCell ⟨w.heap.size, 1, none⟩ (.slice a1 n1 c1)).setCell ⟨w.heap.size, 2, none⟩ (.bool g2)).setCell ⟨w.heap.size, 3, none⟩ (.slice a2 n2 c2)).frozen? ⟨w.heap.size + 1, 1, none⟩ = false := by simp [*, go_sem]
 have t1_2 : ((((w1.setCell ⟨w.heap.size, 0, none⟩ (.bool g1)).setCell ⟨w.heap.size, 1, none⟩ (.slice a1 n1 c1)).setCell ⟨w.heap.size, 2, none⟩ (.bool g2)).setCell ⟨w.heap.size, 3, none⟩ (.slice a2 n2 c2)).cell? ⟨w.heap.size + 1, 2, none⟩ = some (.bool false) := by simp [*, go_sem]
 have v1_2 : ((((w1.setCell ⟨w.heap.size, 0, none⟩ (.bool g1)).setCell ⟨w.heap.size, 1, none⟩ (.slice a1 n1 c1)).setCell ⟨w.heap.size, 2, none⟩ (.bool g2)).setCell ⟨w.heap.size, 3, none⟩ (.slice a2 n2 c2)).frozen? ⟨w.heap.size + 1, 2, none⟩ = false := by simp [*, go_sem]
 have t1_3 : ((((w1.setCell ⟨w.heap.size, 0, none⟩ (.bool g1)).setCell ⟨w.heap.size, 1, none⟩ (.slice a1 n1 c1)).setCell ⟨w.heap.size, 2, none⟩ (.bool g2)).setCell ⟨w.heap.size, 3, none⟩ (.slice a2 n2 c2)).cell? ⟨w.heap.size + 1, 3, none⟩ = some (.slice none 0 0) := by simp [*, go_sem]
 have v1_3 : ((((w1.setCell ⟨w.heap.size, 0, none⟩ (.bool g1)).setCell ⟨w.heap.size, 1, none⟩ (.slice a1 n1 c1)).setCell ⟨w.heap.size, 2, none⟩ (.bool g2)).setCell ⟨w.heap.size, 3, none⟩ (.slice a2 n2 c2)).frozen? ⟨w.heap.size + 1, 3, none⟩ = false := by simp [*, go_sem]
 generalize ((((w1.setCell ⟨w.heap.size, 0, none⟩ (.bool g1)).setCell ⟨w.heap.size, 1, none⟩ (.slice a1 n1 c1)).setCell ⟨w.heap.size, 2, none⟩ (.bool g2)).setCell ⟨w.heap.size, 3, none⟩ (.slice a2 n2 c2)) = w2 at *
 clear s0_0 s0_1 s0_2 s0_3 s1_0 s1_1 s1_2 s1_3 f1_0 f1_1 f1_2 f1_3 f0_0 f0_1 f0_2 f0_3 HB
 have HB := HB2
 have h2 := h.keep HB2
 go_region_held3 (fun W => W.cell? ⟨w.heap.size, 0, none⟩ = some (.bool g1) ∧ W.cell? ⟨w.heap.size, 1, none⟩ = some (.slice a1 n1 c1) ∧ W.cell? ⟨w.heap.size, 2, none⟩ = some (.bool g2) ∧ W.cell? ⟨w.heap.size, 3, none⟩ = some (.slice a2 n2 c2)) (first | ((try dsimp only); (repeat' apply And.intro); all_goals (first | (with_reducible assumption) | (go_keep; done) | (simp [*, go_sem]; done)))) (first
  | (go_at_call 121; (with_reducible refine (Zk _ _ _ _ _ p (h2.top.keep qF)).mono ?_); rintro e w3 ⟨g3, a3, n3, c3, rfl, hn3, hfr3, hb⟩; obtain ⟨hc, hf⟩ := Ax hb; have hz := hb.size; (try simp only [Aj, Ak, Am] at hz); replace HB := zD w hb; obtain ⟨s0_0, s0_1⟩ := qX hc (w.heap.size) (.bool g1) (.slice a1 n1 c1); obtain ⟨s0_2, s0_3⟩ := qY hc (w.heap.size) (.bool g2) (.slice a2 n2 c2); obtain ⟨s1_0, s1_1⟩ := qZ hc (w.heap.size + 1); obtain ⟨s1_2, s1_3⟩ := qY hc (w.heap.size + 1) (.bool false) (.slice none 0 0); obtain ⟨f1_0, f1_1⟩ := zA hf (w.heap.size + 1); obtain ⟨f1_2, f1_3⟩ := zB hf (w.heap.size + 1))
  | (go_at_call 122; (with_reducible refine (J4 _ _ _ _ _ q (h.low.keep HB)).mono ?_); rintro e w4 ⟨g4, a4, n4, c4, rfl, hn4, hfr4, hb⟩; obtain ⟨hc, hf⟩ := Ax hb; have hz := hb.size; (try simp only [Aj, Ak, Am] at hz); replace HB := zD w hb; obtain ⟨s0_0, s0_1⟩ := qX hc (w.heap.size) (.bool g1) (.slice a1 n1 c1); obtain ⟨s0_2, s0_3⟩ := qY hc (w.heap.size) (.bool g2) (.slice a2 n2 c2); obtain ⟨s1_0, s1_1⟩ := qZ hc (w.heap.size + 1); obtain ⟨s1_2, s1_3⟩ := qY hc (w.heap.size + 1) (.bool false) (.slice none 0 0); obtain ⟨f1_0, f1_1⟩ := zA hf (w.heap.size + 1); obtain ⟨f1_2, f1_3⟩ := zB hf (w.heap.size + 1); have hb34 : Below w3.heap.size w3 w4 := Al qF (hb.mono qS); have hn3' := hn3.keep hb34; have hfr3' := hfr3.keep hb34; have hu3 := hfr3'.mono (B' := w.heap.size + 1 + 1) qS; have hu4 := hfr4.mono (B' := w.heap.size + 1 + 1) qS))
 all_goals go_wp2_with fail
 refine bodyPost_ret (v := .agg #[.bool g3, .slice a3 n3 c3, .bool g4, .slice a4 n4 c4]) (by simp [results, Tryz.results42, go_sem, s1_0, s1_1, s1_2, s1_3]) rfl ?_
 have u : w.heap.size + 1 < w.heap.size + 1 + 1 := Ag _
 refine ⟨g3, a3, n3, c3, g4, a4, n4, c4, rfl, ⟨?_, ?_, h.pos, ?_⟩, ?_, ?_, by go_grown⟩
 ·exact hn3'.set4 hu3 ⟨w.heap.size + 1, 0, none⟩ ⟨w.heap.size + 1, 1, none⟩ ⟨w.heap.size + 1, 2, none⟩ ⟨w.heap.size + 1, 3, none⟩ _ _ _ _ u u u u
 ·exact hn4.set4 hu4 ⟨w.heap.size + 1, 0, none⟩ ⟨w.heap.size + 1, 1, none⟩ ⟨w.heap.size + 1, 2, none⟩ ⟨w.heap.size + 1, 3, none⟩ _ _ _ _ u u u u
 ·have := h.red; simpa [Int.gcd] using this
 ·exact (hu3.set4 ⟨w.heap.size + 1, 0, none⟩ ⟨w.heap.size + 1, 1, none⟩ ⟨w.heap.size + 1, 2, none⟩ ⟨w.heap.size + 1, 3, none⟩ _ _ _ _ u u u u).mono qB
 ·exact (hu4.set4 ⟨w.heap.size + 1, 0, none⟩ ⟨w.heap.size + 1, 1, none⟩ ⟨w.heap.size + 1, 2, none⟩ ⟨w.heap.size + 1, 3, none⟩ _ _ _ _ u u u u).mono qB
theorem Ck {P : Program} {c : Code} {Q : Exit → Act → World → Prop} {a : Act} {w : World} (h : ∀ W, W = w → Code.wp P c Q a W) : Code.wp P c Q a w := h w rfl
theorem Dv {P : Program} {f : FuncId} {args : Array Value} {w : World} {R : Ending → World → Prop} (h : ∀ W, W = w → Calls P f args W R) : Calls P f args w R := h w rfl
def Ap2 (a1 : Option Addr) (c1 : Nat) (a2 : Option Addr) (c2 : Nat) : Prop := c1 = 0 ∨ c2 = 0 ∨ a1 ≠ a2
def Gr (w : World) (p q : Int) (e : Ending) (w' : World) : Prop :=
 ∃ g1 a1 n1 c1 g2 a2 n2 c2, e = .returned (.agg #[.bool g1, .slice a1 n1 c1, .bool g2, .slice a2 n2 c2]) ∧ Bj w' g1 a1 n1 c1 p g2 a2 n2 c2 q ∧ Av w.heap.size w' a1 c1 ∧ Av w.heap.size w' a2 c2 ∧ Ap2 a1 c1 a2 c2 ∧ Below w.heap.size w w'
theorem Y9 {B : Nat} {w w' : World} {a a' : Option Addr} {c c' : Nat} (h : Av B w a c) (h' : Av w.heap.size w' a' c') : Ap2 a c a' c' := by
 rcases h with h | ⟨b, cur, h1, _, h3, _⟩
 ·exact .inl h
 ·rcases h' with h' | ⟨b', _, h1', h2', _⟩
  ·exact .inr (.inl h')
  ·refine .inr (.inr fun e => ?_)
   rw [h1, h1'] at e
   simp only [Option.some.injEq, Addr.mk.injEq, and_true] at e
   have := (Ar.1 h3).1
   omega
theorem Sk {p q : Int} (hq : 0 < q) : 0 < q / (Int.gcd p q : Int) ∧ Int.gcd (p / (Int.gcd p q : Int)) (q / (Int.gcd p q : Int)) = 1 := by
 have hg : 0 < Int.gcd p q := Int.gcd_pos_of_ne_zero_right _ qB
 refine ⟨?_, Int.gcd_ediv_gcd_ediv_gcd hg⟩
 have h1 : ((Int.gcd p q : Nat) : Int) ≤ q := Int.le_of_dvd hq (Int.gcd_dvd_right ..)
 exact Int.ediv_pos_of_pos_of_dvd hq qB (Int.gcd_dvd_right ..)
theorem Nd {p q : Int} (hq : 0 < q) : (dg (Int.gcd p q)).length ≤ (dg q.natAbs).length := by
 refine Be ?_
 have h1 : ((Int.gcd p q : Nat) : Int) ≤ q := Int.le_of_dvd hq (Int.gcd_dvd_right ..)
 omega
theorem Ob (w : World) (g : Bool) (a : Option Addr) (n c : Nat) (z : Int) (h : A4 w g a n c z) (g' : Bool) (a' : Option Addr) (n' c' : Nat) (z' : Int) (h' : A4 w g' a' n' c' z')
  (hz' : 0 < z') (hb1 : n < 35184372088829) (hb2 : n' < 35184372088829) :
  Calls Tryz.prog 224 #[.agg #[.bool g, .slice a n c], .agg #[.bool g', .slice a' n' c']] w (Gr w (z / (Int.gcd z z' : Int)) (z' / (Int.gcd z z' : Int))) := by
 have HB := Ac w.heap.size w
 have hsg : Br z' 0 = 1 := Ct hz'
 have hgp : 0 < Int.gcd z z' := Int.gcd_pos_of_ne_zero_right _ qB
 go_enter Tryz.func224, Tryz.ntmps224
 go_wp2_with fail
 refine Dv ?_
 intro w0 hw0
 have HB0 : Below w.heap.size w w0 := by rw [hw0]; go_grown
 have A0 : w0.cell? ⟨w.heap.size, 0, none⟩ = some (.bool g) := by rw [hw0]; simp [go_sem]
 have A1 : w0.cell? ⟨w.heap.size, 1, none⟩ = some (.slice a n c) := by rw [hw0]; simp [go_sem]
 have B0 : w0.cell? ⟨w.heap.size + 1, 0, none⟩ = some (.bool g') := by rw [hw0]; simp [go_sem]
 have B1 : w0.cell? ⟨w.heap.size + 1, 1, none⟩ = some (.slice a' n' c') := by rw [hw0]; simp [go_sem]
 have R0 : w0.cell? ⟨w.heap.size + 1 + 1, 0, none⟩ = some (.bool false) := by rw [hw0]; simp [go_sem]
 have R1 : w0.cell? ⟨w.heap.size + 1 + 1, 1, none⟩ = some (.slice none 0 0) := by rw [hw0]; simp [go_sem]
 have R2 : w0.cell? ⟨w.heap.size + 1 + 1, 2, none⟩ = some (.bool false) := by rw [hw0]; simp [go_sem]
 have R3 : w0.cell? ⟨w.heap.size + 1 + 1, 3, none⟩ = some (.slice none 0 0) := by rw [hw0]; simp [go_sem]
 have Rf0 : w0.frozen? ⟨w.heap.size + 1 + 1, 0, none⟩ = false := by rw [hw0]; simp [go_sem]
 have Rf1 : w0.frozen? ⟨w.heap.size + 1 + 1, 1, none⟩ = false := by rw [hw0]; simp [go_sem]
 have Rf2 : w0.frozen? ⟨w.heap.size + 1 + 1, 2, none⟩ = false := by rw [hw0]; simp [go_sem]
 have Rf3 : w0.frozen? ⟨w.heap.size + 1 + 1, 3, none⟩ = false := by rw [hw0]; simp [go_sem]
 have hk0 : w.heap.size + 1 + 1 + 1 ≤ w0.heap.size := Aa _ _ R0
 clear hw0
 refine (eH _ _ _ _ _ z (h.keep HB0) _ _ _ _ z' (h'.keep HB0) hz' hb2 hb1).mono ?_
 rintro e w1 ⟨gg, ag, ng, cg, rfl, hng, hfg, hb⟩
 have HB1 := HB0.trans (hb.mono HB0.size)
 (replace Rf0 := (Ab hb (Aa _ _ R0)).trans Rf0; replace Rf1 := (Ab hb (Aa _ _ R1)).trans Rf1; replace Rf2 := (Ab hb (Aa _ _ R2)).trans Rf2; replace Rf3 := (Ab hb (Aa _ _ R3)).trans Rf3; replace A0 := Au hb A0; replace A1 := Au hb A1; replace B0 := Au hb B0; replace B1 := Au hb B1; replace R0 := Au hb R0; replace R1 := Au hb R1; replace R2 := Au hb R2; replace R3 := Au hb R3)
 have hs1 := HB1.size
 have hlg : ng ≤ n' := by have h1 := hng.rd.len; have h2 := h'.rd.len; rw [Int.natAbs_natCast] at h1; have h3 := Nd (p := z) hz'; omega
 have hkr : w.heap.size + 1 + 1 < w1.heap.size := Aa _ _ R0
 replace hfg := hfg.mono hk0
 clear hb HB0
 go_upto_region 2 with fail
 (refine Ck ?_; intro w2 hw2; have G0' : w2.cell? ⟨w1.heap.size, 0, none⟩ = some (.bool gg) := (by rw [hw2]; first | assumption | (simp [go_sem]; done) | (simp [*, go_sem]; done)); have G1' : w2.cell? ⟨w1.heap.size, 1, none⟩ = some (.slice ag ng cg) := (by rw [hw2]; first | assumption | (simp [go_sem]; done) | (simp [*, go_sem]; done)); have G0 := G0'; clear G0'; have G1 := G1'; clear G1')
 have hb12 : Below w1.heap.size w1 w2 := by rw [hw2]; go_grown
 (replace Rf0 := (Ab hb12 (Aa _ _ R0)).trans Rf0; replace Rf1 := (Ab hb12 (Aa _ _ R1)).trans Rf1; replace Rf2 := (Ab hb12 (Aa _ _ R2)).trans Rf2; replace Rf3 := (Ab hb12 (Aa _ _ R3)).trans Rf3; replace A0 := Au hb12 A0; replace A1 := Au hb12 A1; replace B0 := Au hb12 B0; replace B1 := Au hb12 B1; replace R0 := Au hb12 R0; replace R1 := Au hb12 R1; replace R2 := Au hb12 R2; replace R3 := Au hb12 R3)
 have hs2 : w1.heap.size < w2.heap.size := by rw [hw2]; simp
 have HB2 := HB1.trans (hb12.mono hs1)
 replace hng := hng.keep hb12
 replace hfg := hfg.keep hb12
 obtain ⟨G, hG⟩ : ∃ G, G = w1.heap.size := ⟨_, rfl⟩
 rw [← hG] at G0 G1 ⊢
 have hGr : w.heap.size + 1 + 1 < G := by omega
 clear hw2 hb12 HB1 hG
 go_wp2_with fail
 refine (Lx _ _ _ _ _ z' (h'.keep HB2)).mono ?_
 rintro e w3 ⟨rfl, hb⟩
 have HB3 := HB2.trans (hb.mono HB2.size)
 (replace Rf0 := (Ab hb (Aa _ _ R0)).trans Rf0; replace Rf1 := (Ab hb (Aa _ _ R1)).trans Rf1; replace Rf2 := (Ab hb (Aa _ _ R2)).trans Rf2; replace Rf3 := (Ab hb (Aa _ _ R3)).trans Rf3; replace A0 := Au hb A0; replace A1 := Au hb A1; replace B0 := Au hb B0; replace B1 := Au hb B1; replace R0 := Au hb R0; replace R1 := Au hb R1; replace R2 := Au hb R2; replace R3 := Au hb R3; replace G0 := Au hb G0; replace G1 := Au hb G1)
 replace hng := hng.keep hb
 replace hfg := hfg.keep hb
 have hk3 : w.heap.size + 1 + 1 < w3.heap.size := Nat.lt_trans hGr (Aa _ _ G0)
 clear hb HB2
 rw [hsg]
 have hgne : ((Int.gcd z z' : Nat) : Int) ≠ 0 := by omega
 obtain ⟨D, hD⟩ : ∃ D : Int, D = ((Int.gcd z z' : Nat) : Int) := ⟨_, rfl⟩
 rw [← hD] at hng hgne
 have HD := Ae hD
 clear hD
 go_wp2_with fail
 refine (aG _ _ _ _ _ z (h.keep HB3) _ _ _ _ D hng hgne qB qB).mono ?_
 rintro e w4 ⟨gq, aq, nq, cq, gr, ar, nr, cr, rfl, hq, hr, hfq, hfr, hb⟩
 have HB4 := HB3.trans (hb.mono HB3.size)
 (replace Rf0 := (Ab hb (Aa _ _ R0)).trans Rf0; replace Rf1 := (Ab hb (Aa _ _ R1)).trans Rf1; replace Rf2 := (Ab hb (Aa _ _ R2)).trans Rf2; replace Rf3 := (Ab hb (Aa _ _ R3)).trans Rf3; replace A0 := Au hb A0; replace A1 := Au hb A1; replace B0 := Au hb B0; replace B1 := Au hb B1; replace R0 := Au hb R0; replace R1 := Au hb R1; replace R2 := Au hb R2; replace R3 := Au hb R3; replace G0 := Au hb G0; replace G1 := Au hb G1)
 replace hng := hng.keep hb
 replace hfg := hfg.keep hb
 have hs4 := HB3.size
 have hfq4 : Av (w.heap.size + 1 + 1 + 1) w4 aq cq := hfq.mono hk3
 have hGn : ¬ G = w.heap.size + 1 + 1 := by omega
 have hGn' : ¬ w.heap.size + 1 + 1 = G := by omega
 have hRl : w.heap.size + 1 + 1 < w.heap.size + 1 + 1 + 1 := Ag _
 have hk4 := HB4.size
 clear hb HB3 hr hfr hfq
 go_upto_region 5 with fail
 (refine Ck ?_; intro w5 hw5; have A0' : w5.cell? ⟨w.heap.size, 0, none⟩ = some (.bool g) := (by rw [hw5]; first | assumption | (simp [go_sem]; done) | (simp [*, go_sem]; done)); have A1' : w5.cell? ⟨w.heap.size, 1, none⟩ = some (.slice a n c) := (by rw [hw5]; first | assumption | (simp [go_sem]; done) | (simp [*, go_sem]; done)); have B0' : w5.cell? ⟨w.heap.size + 1, 0, none⟩ = some (.bool g') := (by rw [hw5]; first | assumption | (simp [go_sem]; done) | (simp [*, go_sem]; done)); have B1' : w5.cell? ⟨w.heap.size + 1, 1, none⟩ = some (.slice a' n' c') := (by rw [hw5]; first | assumption | (simp [go_sem]; done) | (simp [*, go_sem]; done)); have R0' : w5.cell? ⟨w.heap.size + 1 + 1, 0, none⟩ = some (.bool gq) := (by rw [hw5]; first | assumption | (simp [go_sem]; done) | (simp [*, go_sem]; done)); have Rf0' : w5.frozen? ⟨w.heap.size + 1 + 1, 0, none⟩ = false := (by rw [hw5]; first | assumption | (simp [go_sem]; done) | (simp [*, go_sem]; done)); have R1' : w5.cell? ⟨w.heap.size + 1 + 1, 1, none⟩ = some (.slice aq nq cq) := (by rw [hw5]; first | assumption | (simp [go_sem]; done) | (simp [*, go_sem]; done)); have Rf1' : w5.frozen? ⟨w.heap.size + 1 + 1, 1, none⟩ = false := (by rw [hw5]; first | assumption | (simp [go_sem]; done) | (simp [*, go_sem]; done)); have R2' : w5.cell? ⟨w.heap.size + 1 + 1, 2, none⟩ = some (.bool false) := (by rw [hw5]; first | assumption | (simp [go_sem]; done) | (simp [*, go_sem]; done)); have Rf2' : w5.frozen? ⟨w.heap.size + 1 + 1, 2, none⟩ = false := (by rw [hw5]; first | assumption | (simp [go_sem]; done) | (simp [*, go_sem]; done)); have R3' : w5.cell? ⟨w.heap.size + 1 + 1, 3, none⟩ = some (.slice none 0 0) := (by rw [hw5]; first | assumption | (simp [go_sem]; done) | (simp [*, go_sem]; done)); have Rf3' : w5.frozen? ⟨w.heap.size + 1 + 1, 3, none⟩ = false := (by rw [hw5]; first | assumption | (simp [go_sem]; done) | (simp [*, go_sem]; done)); have G0' : w5.cell? ⟨G, 0, none⟩ = some (.bool gg) := (by rw [hw5]; first | assumption | (simp [go_sem]; done) | (simp [*, go_sem]; done)); have G1' : w5.cell? ⟨G, 1, none⟩ = some (.slice ag ng cg) := (by rw [hw5]; first | assumption | (simp [go_sem]; done) | (simp [*, go_sem]; done)); clear A0 A1 B0 B1 R0 R1 R2 R3 Rf0 Rf1 Rf2 Rf3 G0 G1; have A0 := A0'; clear A0'; have A1 := A1'; clear A1'; have B0 := B0'; clear B0'; have B1 := B1'; clear B1'; have R0 := R0'; clear R0'; have Rf0 := Rf0'; clear Rf0'; have R1 := R1'; clear R1'; have Rf1 := Rf1'; clear Rf1'; have R2 := R2'; clear R2'; have Rf2 := Rf2'; clear Rf2'; have R3 := R3'; clear R3'; have Rf3 := Rf3'; clear Rf3'; have G0 := G0'; clear G0'; have G1 := G1'; clear G1')
 have HB5 : Below w.heap.size w w5 := by rw [hw5]; go_grown
 have hng5 : A4 w5 gg ag ng cg D := by rw [hw5]; exact (hng.setFresh hfg _ _ hRl).setFresh (hfg.setNew _ _ hRl) _ _ hRl
 have hfg5 : Av (w.heap.size + 1 + 1 + 1) w5 ag cg := by rw [hw5]; exact (hfg.setNew _ _ hRl).setNew _ _ hRl
 have hq5 : A4 w5 gq aq nq cq (z / D) := by rw [hw5]; exact (hq.setFresh hfq4 _ _ hRl).setFresh (hfq4.setNew _ _ hRl) _ _ hRl
 have hfq5 : Av (w.heap.size + 1 + 1 + 1) w5 aq cq := by rw [hw5]; exact (hfq4.setNew _ _ hRl).setNew _ _ hRl
 have hk5 : w.heap.size + 1 + 1 < w5.heap.size := Aa _ _ R0
 clear hw5 hng hfg hq hfq4 HB4
 go_wp2_with fail
 refine (aG _ _ _ _ _ z' (h'.keep HB5) _ _ _ _ D hng5 hgne qB qB).mono ?_
 rintro e w6 ⟨gs, a5, n5, c5, gr, ar, nr, cr, rfl, hs, hr, hfs, hfr, hb⟩
 have HB6 := HB5.trans (hb.mono HB5.size)
 (replace Rf0 := (Ab hb (Aa _ _ R0)).trans Rf0; replace Rf1 := (Ab hb (Aa _ _ R1)).trans Rf1; replace Rf2 := (Ab hb (Aa _ _ R2)).trans Rf2; replace Rf3 := (Ab hb (Aa _ _ R3)).trans Rf3; replace R0 := Au hb R0; replace R1 := Au hb R1; replace R2 := Au hb R2; replace R3 := Au hb R3)
 have hq6 := hq5.keep hb
 have hfq6 := hfq5.keep hb
 have hfs6 : Av (w.heap.size + 1 + 1 + 1) w6 a5 c5 := hfs.mono hk5
 have hap : Ap2 aq cq a5 c5 := Y9 hfq5 hfs
 clear hb HB5 hr hfr hfs hq5 hfq5 hng5 hfg5 A0 A1 B0 B1 G0 G1
 go_upto_region 6 with fail
 (refine Ck ?_; intro w7 hw7; have R0' : w7.cell? ⟨w.heap.size + 1 + 1, 0, none⟩ = some (.bool gq) := (by rw [hw7]; first | assumption | (simp [go_sem]; done) | (simp [*, go_sem]; done)); have Rf0' : w7.frozen? ⟨w.heap.size + 1 + 1, 0, none⟩ = false := (by rw [hw7]; first | assumption | (simp [go_sem]; done) | (simp [*, go_sem]; done)); have R1' : w7.cell? ⟨w.heap.size + 1 + 1, 1, none⟩ = some (.slice aq nq cq) := (by rw [hw7]; first | assumption | (simp [go_sem]; done) | (simp [*, go_sem]; done)); have Rf1' : w7.frozen? ⟨w.heap.size + 1 + 1, 1, none⟩ = false := (by rw [hw7]; first | assumption | (simp [go_sem]; done) | (simp [*, go_sem]; done)); have R2' : w7.cell? ⟨w.heap.size + 1 + 1, 2, none⟩ = some (.bool gs) := (by rw [hw7]; first | assumption | (simp [go_sem]; done) | (simp [*, go_sem]; done)); have Rf2' : w7.frozen? ⟨w.heap.size + 1 + 1, 2, none⟩ = false := (by rw [hw7]; first | assumption | (simp [go_sem]; done) | (simp [*, go_sem]; done)); have R3' : w7.cell? ⟨w.heap.size + 1 + 1, 3, none⟩ = some (.slice a5 n5 c5) := (by rw [hw7]; first | assumption | (simp [go_sem]; done) | (simp [*, go_sem]; done)); have Rf3' : w7.frozen? ⟨w.heap.size + 1 + 1, 3, none⟩ = false := (by rw [hw7]; first | assumption | (simp [go_sem]; done) | (simp [*, go_sem]; done)); clear R0 R1 R2 R3 Rf0 Rf1 Rf2 Rf3; have R0 := R0'; clear R0'; have Rf0 := Rf0'; clear Rf0'; have R1 := R1'; clear R1'; have Rf1 := Rf1'; clear Rf1'; have R2 := R2'; clear R2'; have Rf2 := Rf2'; clear Rf2'; have R3 := R3'; clear R3'; have Rf3 := Rf3'; clear Rf3')
 have HB7 : Below w.heap.size w w7 := by rw [hw7]; go_grown
 have hq7 : A4 w7 gq aq nq cq (z / D) := by rw [hw7]; exact (hq6.setFresh hfq6 _ _ hRl).setFresh (hfq6.setNew _ _ hRl) _ _ hRl
 have hfq7 : Av (w.heap.size + 1 + 1 + 1) w7 aq cq := by rw [hw7]; exact (hfq6.setNew _ _ hRl).setNew _ _ hRl
 have hs7 : A4 w7 gs a5 n5 c5 (z' / D) := by rw [hw7]; exact (hs.setFresh hfs6 _ _ hRl).setFresh (hfs6.setNew _ _ hRl) _ _ hRl
 have hfs7 : Av (w.heap.size + 1 + 1 + 1) w7 a5 c5 := by rw [hw7]; exact (hfs6.setNew _ _ hRl).setNew _ _ hRl
 clear hw7 hq6 hfq6 hs hfs6 HB6
 go_wp2_with fail
 refine bodyPost_ret (v := .agg #[.bool gq, .slice aq nq cq, .bool gs, .slice a5 n5 c5]) (by simp [results, Tryz.results224, go_sem, R0, R1, R2, R3]) rfl ?_
 have hfl := Sk (p := z) hz'
 rw [← HD.out] at hfl ⊢
 refine ⟨gq, aq, nq, cq, gs, a5, n5, c5, rfl, ⟨?_, ?_, hfl.1, hfl.2⟩, ?_, ?_, hap, by go_grown⟩
 ·exact hq7.set4 hfq7 _ _ _ _ _ _ _ _ hRl hRl hRl hRl
 ·exact hs7.set4 hfs7 _ _ _ _ _ _ _ _ hRl hRl hRl hRl
 ·exact (hfq7.set4 _ _ _ _ _ _ _ _ hRl hRl hRl hRl).mono qB
 ·exact (hfs7.set4 _ _ _ _ _ _ _ _ hRl hRl hRl hRl).mono qB
end Go.Proofs.YtdamegaedmckbaaGreatDoor
end
