/- The document's answer, layer 2: Neg, Text. -/
import Derived.Test.YtdamegaedmckbaaGreatDoorS36
import Derived.Test.YtdamegaedmckbaaGreatDoorS21
import Derived.Deep.CutBlock
set_option linter.unusedSimpArgs false
set_option linter.unusedVariables false
set_option linter.unusedSimpArgs false
set_option linter.unusedVariables false
namespace Go.Proofs.YtdamegaedmckbaaGreatDoor
open Go.RowKit

/-- A fraction in new memory. -/
def RetFrac (w : World) (p q : Int) (e : Ending) (w' : World) : Prop :=
  ∃ g1 a1 n1 c1 g2 a2 n2 c2, e = .returned (.agg #[.bool g1, .slice a1 n1 c1, .bool g2, .slice a2 n2 c2]) ∧ FracAt w' g1 a1 n1 c1 p g2 a2 n2 c2 q ∧ Fresh w.heap.size w' a1 c1 ∧ Fresh w.heap.size w' a2 c2 ∧ Below w.heap.size w w'

set_option maxRecDepth 100000 in
set_option maxHeartbeats 1000000 in
theorem rfNeg_c (w : World) (g1 : Bool) (a1 : Option Addr) (n1 c1 : Nat) (p : Int) (g2 : Bool) (a2 : Option Addr) (n2 c2 : Nat) (q : Int) (h : FracAt w g1 a1 n1 c1 p g2 a2 n2 c2 q) (hs : n2 ≤ 1) (hb1 : n1 < 35184372088830) :
    Calls Tryz.prog 42 #[.agg #[.bool g1, .slice a1 n1 c1, .bool g2, .slice a2 n2 c2]] w (RetFrac w (-p) q) := by
  have HB := Below.refl w.heap.size w
  go_enter Tryz.func42, Tryz.ntmps42
  go_wp2_with fail
  refine (rfFit_c _ _ _ _ _ _ _ _ _ _ _ (h.keep (by go_grown)) hs hb1).mono ?_
  rintro e w1 ⟨rfl, hb⟩
  obtain ⟨hc, hf⟩ := bcell hb; have hz := hb.size; (try simp only [World.size_alloc, World.size_drew] at hz)
  replace HB : Below w.heap.size w w1 := Below.trans (by go_grown) (hb.mono (by go_size))
  have s0_0 : w1.cell? ⟨w.heap.size, 0, none⟩ = some (.bool g1) := (hc _ _ (by go_size)).trans (by first | assumption | (simp [go_sem]; done) | (simp [*, go_sem]; done)); have s0_1 : w1.cell? ⟨w.heap.size, 1, none⟩ = some (.slice a1 n1 c1) := (hc _ _ (by go_size)).trans (by first | assumption | (simp [go_sem]; done) | (simp [*, go_sem]; done)); have s0_2 : w1.cell? ⟨w.heap.size, 2, none⟩ = some (.bool g2) := (hc _ _ (by go_size)).trans (by first | assumption | (simp [go_sem]; done) | (simp [*, go_sem]; done)); have s0_3 : w1.cell? ⟨w.heap.size, 3, none⟩ = some (.slice a2 n2 c2) := (hc _ _ (by go_size)).trans (by first | assumption | (simp [go_sem]; done) | (simp [*, go_sem]; done)); have s1_0 : w1.cell? ⟨w.heap.size + 1, 0, none⟩ = some (.bool false) := (hc _ _ (by go_size)).trans (by first | assumption | (simp [go_sem]; done) | (simp [*, go_sem]; done)); have s1_1 : w1.cell? ⟨w.heap.size + 1, 1, none⟩ = some (.slice none 0 0) := (hc _ _ (by go_size)).trans (by first | assumption | (simp [go_sem]; done) | (simp [*, go_sem]; done)); have s1_2 : w1.cell? ⟨w.heap.size + 1, 2, none⟩ = some (.bool false) := (hc _ _ (by go_size)).trans (by first | assumption | (simp [go_sem]; done) | (simp [*, go_sem]; done)); have s1_3 : w1.cell? ⟨w.heap.size + 1, 3, none⟩ = some (.slice none 0 0) := (hc _ _ (by go_size)).trans (by first | assumption | (simp [go_sem]; done) | (simp [*, go_sem]; done)); have f1_0 : w1.frozen? ⟨w.heap.size + 1, 0, none⟩ = false := (hf _ _ (by go_size)).trans (by first | assumption | (simp [go_sem]; done) | (simp [*, go_sem]; done)); have f1_1 : w1.frozen? ⟨w.heap.size + 1, 1, none⟩ = false := (hf _ _ (by go_size)).trans (by first | assumption | (simp [go_sem]; done) | (simp [*, go_sem]; done)); have f1_2 : w1.frozen? ⟨w.heap.size + 1, 2, none⟩ = false := (hf _ _ (by go_size)).trans (by first | assumption | (simp [go_sem]; done) | (simp [*, go_sem]; done)); have f1_3 : w1.frozen? ⟨w.heap.size + 1, 3, none⟩ = false := (hf _ _ (by go_size)).trans (by first | assumption | (simp [go_sem]; done) | (simp [*, go_sem]; done)); have f0_0 : w1.frozen? ⟨w.heap.size, 0, none⟩ = false := (hf _ _ (by go_size)).trans (by first | assumption | (simp [go_sem]; done) | (simp [*, go_sem]; done)); have f0_1 : w1.frozen? ⟨w.heap.size, 1, none⟩ = false := (hf _ _ (by go_size)).trans (by first | assumption | (simp [go_sem]; done) | (simp [*, go_sem]; done)); have f0_2 : w1.frozen? ⟨w.heap.size, 2, none⟩ = false := (hf _ _ (by go_size)).trans (by first | assumption | (simp [go_sem]; done) | (simp [*, go_sem]; done)); have f0_3 : w1.frozen? ⟨w.heap.size, 3, none⟩ = false := (hf _ _ (by go_size)).trans (by first | assumption | (simp [go_sem]; done) | (simp [*, go_sem]; done))
  have hk1 : w.heap.size + 1 < w1.heap.size := by omega
  have hk0 : w.heap.size < w1.heap.size := by omega
  clear hc hf hb hz
  go_upto_region 2 with fail
  have HB2 : Below w.heap.size w ((((w1.setCell ⟨w.heap.size, 0, none⟩ (.bool g1)).setCell ⟨w.heap.size, 1, none⟩ (.slice a1 n1 c1)).setCell ⟨w.heap.size, 2, none⟩ (.bool g2)).setCell ⟨w.heap.size, 3, none⟩ (.slice a2 n2 c2)) := by go_grown
  have hk2 : w.heap.size + 1 < ((((w1.setCell ⟨w.heap.size, 0, none⟩ (.bool g1)).setCell ⟨w.heap.size, 1, none⟩ (.slice a1 n1 c1)).setCell ⟨w.heap.size, 2, none⟩ (.bool g2)).setCell ⟨w.heap.size, 3, none⟩ (.slice a2 n2 c2)).heap.size := by simp; omega
  have t0_0 : ((((w1.setCell ⟨w.heap.size, 0, none⟩ (.bool g1)).setCell ⟨w.heap.size, 1, none⟩ (.slice a1 n1 c1)).setCell ⟨w.heap.size, 2, none⟩ (.bool g2)).setCell ⟨w.heap.size, 3, none⟩ (.slice a2 n2 c2)).cell? ⟨w.heap.size, 0, none⟩ = some (.bool g1) := by simp [*, go_sem]
  have t0_1 : ((((w1.setCell ⟨w.heap.size, 0, none⟩ (.bool g1)).setCell ⟨w.heap.size, 1, none⟩ (.slice a1 n1 c1)).setCell ⟨w.heap.size, 2, none⟩ (.bool g2)).setCell ⟨w.heap.size, 3, none⟩ (.slice a2 n2 c2)).cell? ⟨w.heap.size, 1, none⟩ = some (.slice a1 n1 c1) := by simp [*, go_sem]
  have t0_2 : ((((w1.setCell ⟨w.heap.size, 0, none⟩ (.bool g1)).setCell ⟨w.heap.size, 1, none⟩ (.slice a1 n1 c1)).setCell ⟨w.heap.size, 2, none⟩ (.bool g2)).setCell ⟨w.heap.size, 3, none⟩ (.slice a2 n2 c2)).cell? ⟨w.heap.size, 2, none⟩ = some (.bool g2) := by simp [*, go_sem]
  have t0_3 : ((((w1.setCell ⟨w.heap.size, 0, none⟩ (.bool g1)).setCell ⟨w.heap.size, 1, none⟩ (.slice a1 n1 c1)).setCell ⟨w.heap.size, 2, none⟩ (.bool g2)).setCell ⟨w.heap.size, 3, none⟩ (.slice a2 n2 c2)).cell? ⟨w.heap.size, 3, none⟩ = some (.slice a2 n2 c2) := by simp [*, go_sem]
  have t1_0 : ((((w1.setCell ⟨w.heap.size, 0, none⟩ (.bool g1)).setCell ⟨w.heap.size, 1, none⟩ (.slice a1 n1 c1)).setCell ⟨w.heap.size, 2, none⟩ (.bool g2)).setCell ⟨w.heap.size, 3, none⟩ (.slice a2 n2 c2)).cell? ⟨w.heap.size + 1, 0, none⟩ = some (.bool false) := by simp [*, go_sem]
  have v1_0 : ((((w1.setCell ⟨w.heap.size, 0, none⟩ (.bool g1)).setCell ⟨w.heap.size, 1, none⟩ (.slice a1 n1 c1)).setCell ⟨w.heap.size, 2, none⟩ (.bool g2)).setCell ⟨w.heap.size, 3, none⟩ (.slice a2 n2 c2)).frozen? ⟨w.heap.size + 1, 0, none⟩ = false := by simp [*, go_sem]
  have t1_1 : ((((w1.setCell ⟨w.heap.size, 0, none⟩ (.bool g1)).setCell ⟨w.heap.size, 1, none⟩ (.slice a1 n1 c1)).setCell ⟨w.heap.size, 2, none⟩ (.bool g2)).setCell ⟨w.heap.size, 3, none⟩ (.slice a2 n2 c2)).cell? ⟨w.heap.size + 1, 1, none⟩ = some (.slice none 0 0) := by simp [*, go_sem]
  have v1_1 : ((((w1.setCell ⟨w.heap.size, 0, none⟩ (.bool g1)).setCell ⟨w.heap.size, 1, none⟩ (.slice a1 n1 c1)).setCell ⟨w.heap.size, 2, none⟩ (.bool g2)).setCell ⟨w.heap.size, 3, none⟩ (.slice a2 n2 c2)).frozen? ⟨w.heap.size + 1, 1, none⟩ = false := by simp [*, go_sem]
  have t1_2 : ((((w1.setCell ⟨w.heap.size, 0, none⟩ (.bool g1)).setCell ⟨w.heap.size, 1, none⟩ (.slice a1 n1 c1)).setCell ⟨w.heap.size, 2, none⟩ (.bool g2)).setCell ⟨w.heap.size, 3, none⟩ (.slice a2 n2 c2)).cell? ⟨w.heap.size + 1, 2, none⟩ = some (.bool false) := by simp [*, go_sem]
  have v1_2 : ((((w1.setCell ⟨w.heap.size, 0, none⟩ (.bool g1)).setCell ⟨w.heap.size, 1, none⟩ (.slice a1 n1 c1)).setCell ⟨w.heap.size, 2, none⟩ (.bool g2)).setCell ⟨w.heap.size, 3, none⟩ (.slice a2 n2 c2)).frozen? ⟨w.heap.size + 1, 2, none⟩ = false := by simp [*, go_sem]
  have t1_3 : ((((w1.setCell ⟨w.heap.size, 0, none⟩ (.bool g1)).setCell ⟨w.heap.size, 1, none⟩ (.slice a1 n1 c1)).setCell ⟨w.heap.size, 2, none⟩ (.bool g2)).setCell ⟨w.heap.size, 3, none⟩ (.slice a2 n2 c2)).cell? ⟨w.heap.size + 1, 3, none⟩ = some (.slice none 0 0) := by simp [*, go_sem]
  have v1_3 : ((((w1.setCell ⟨w.heap.size, 0, none⟩ (.bool g1)).setCell ⟨w.heap.size, 1, none⟩ (.slice a1 n1 c1)).setCell ⟨w.heap.size, 2, none⟩ (.bool g2)).setCell ⟨w.heap.size, 3, none⟩ (.slice a2 n2 c2)).frozen? ⟨w.heap.size + 1, 3, none⟩ = false := by simp [*, go_sem]
  generalize ((((w1.setCell ⟨w.heap.size, 0, none⟩ (.bool g1)).setCell ⟨w.heap.size, 1, none⟩ (.slice a1 n1 c1)).setCell ⟨w.heap.size, 2, none⟩ (.bool g2)).setCell ⟨w.heap.size, 3, none⟩ (.slice a2 n2 c2)) = w2 at *
  clear s0_0 s0_1 s0_2 s0_3 s1_0 s1_1 s1_2 s1_3 f1_0 f1_1 f1_2 f1_3 f0_0 f0_1 f0_2 f0_3 HB
  have HB := HB2
  have h2 := h.keep HB2
  go_region_held3 (fun W => W.cell? ⟨w.heap.size, 0, none⟩ = some (.bool g1) ∧ W.cell? ⟨w.heap.size, 1, none⟩ = some (.slice a1 n1 c1) ∧ W.cell? ⟨w.heap.size, 2, none⟩ = some (.bool g2) ∧ W.cell? ⟨w.heap.size, 3, none⟩ = some (.slice a2 n2 c2)) (first | ((try dsimp only); (repeat' apply And.intro); all_goals (first | (with_reducible assumption) | (go_keep; done) | (simp [*, go_sem]; done)))) (first
    | (go_at_call 121; (with_reducible refine (rNeg_c _ _ _ _ _ p (h2.top.keep (by go_grown))).mono ?_); rintro e w3 ⟨g3, a3, n3, c3, rfl, hn3, hfr3, hb⟩; obtain ⟨hc, hf⟩ := bcell hb; have hz := hb.size; (try simp only [World.size_alloc, World.size_drew, World.size_setCell] at hz); replace HB : Below w.heap.size w w3 := Below.trans (by go_grown) (hb.mono (by go_size)); have s0_0 : w3.cell? ⟨w.heap.size, 0, none⟩ = some (.bool g1) := (hc _ _ (by go_size)).trans (by first | assumption | (simp [go_sem]; done) | (simp [*, go_sem]; done)); have s0_1 : w3.cell? ⟨w.heap.size, 1, none⟩ = some (.slice a1 n1 c1) := (hc _ _ (by go_size)).trans (by first | assumption | (simp [go_sem]; done) | (simp [*, go_sem]; done)); have s0_2 : w3.cell? ⟨w.heap.size, 2, none⟩ = some (.bool g2) := (hc _ _ (by go_size)).trans (by first | assumption | (simp [go_sem]; done) | (simp [*, go_sem]; done)); have s0_3 : w3.cell? ⟨w.heap.size, 3, none⟩ = some (.slice a2 n2 c2) := (hc _ _ (by go_size)).trans (by first | assumption | (simp [go_sem]; done) | (simp [*, go_sem]; done)); have s1_0 : w3.cell? ⟨w.heap.size + 1, 0, none⟩ = some (.bool false) := (hc _ _ (by go_size)).trans (by first | assumption | (simp [go_sem]; done) | (simp [*, go_sem]; done)); have s1_1 : w3.cell? ⟨w.heap.size + 1, 1, none⟩ = some (.slice none 0 0) := (hc _ _ (by go_size)).trans (by first | assumption | (simp [go_sem]; done) | (simp [*, go_sem]; done)); have s1_2 : w3.cell? ⟨w.heap.size + 1, 2, none⟩ = some (.bool false) := (hc _ _ (by go_size)).trans (by first | assumption | (simp [go_sem]; done) | (simp [*, go_sem]; done)); have s1_3 : w3.cell? ⟨w.heap.size + 1, 3, none⟩ = some (.slice none 0 0) := (hc _ _ (by go_size)).trans (by first | assumption | (simp [go_sem]; done) | (simp [*, go_sem]; done)); have f1_0 : w3.frozen? ⟨w.heap.size + 1, 0, none⟩ = false := (hf _ _ (by go_size)).trans (by first | assumption | (simp [go_sem]; done) | (simp [*, go_sem]; done)); have f1_1 : w3.frozen? ⟨w.heap.size + 1, 1, none⟩ = false := (hf _ _ (by go_size)).trans (by first | assumption | (simp [go_sem]; done) | (simp [*, go_sem]; done)); have f1_2 : w3.frozen? ⟨w.heap.size + 1, 2, none⟩ = false := (hf _ _ (by go_size)).trans (by first | assumption | (simp [go_sem]; done) | (simp [*, go_sem]; done)); have f1_3 : w3.frozen? ⟨w.heap.size + 1, 3, none⟩ = false := (hf _ _ (by go_size)).trans (by first | assumption | (simp [go_sem]; done) | (simp [*, go_sem]; done)))
    | (go_at_call 122; (with_reducible refine (rTwin_c _ _ _ _ _ q (h.low.keep HB)).mono ?_); rintro e w4 ⟨g4, a4, n4, c4, rfl, hn4, hfr4, hb⟩; obtain ⟨hc, hf⟩ := bcell hb; have hz := hb.size; (try simp only [World.size_alloc, World.size_drew, World.size_setCell] at hz); replace HB : Below w.heap.size w w4 := Below.trans (by go_grown) (hb.mono (by go_size)); have s0_0 : w4.cell? ⟨w.heap.size, 0, none⟩ = some (.bool g1) := (hc _ _ (by go_size)).trans (by first | assumption | (simp [go_sem]; done) | (simp [*, go_sem]; done)); have s0_1 : w4.cell? ⟨w.heap.size, 1, none⟩ = some (.slice a1 n1 c1) := (hc _ _ (by go_size)).trans (by first | assumption | (simp [go_sem]; done) | (simp [*, go_sem]; done)); have s0_2 : w4.cell? ⟨w.heap.size, 2, none⟩ = some (.bool g2) := (hc _ _ (by go_size)).trans (by first | assumption | (simp [go_sem]; done) | (simp [*, go_sem]; done)); have s0_3 : w4.cell? ⟨w.heap.size, 3, none⟩ = some (.slice a2 n2 c2) := (hc _ _ (by go_size)).trans (by first | assumption | (simp [go_sem]; done) | (simp [*, go_sem]; done)); have s1_0 : w4.cell? ⟨w.heap.size + 1, 0, none⟩ = some (.bool false) := (hc _ _ (by go_size)).trans (by first | assumption | (simp [go_sem]; done) | (simp [*, go_sem]; done)); have s1_1 : w4.cell? ⟨w.heap.size + 1, 1, none⟩ = some (.slice none 0 0) := (hc _ _ (by go_size)).trans (by first | assumption | (simp [go_sem]; done) | (simp [*, go_sem]; done)); have s1_2 : w4.cell? ⟨w.heap.size + 1, 2, none⟩ = some (.bool false) := (hc _ _ (by go_size)).trans (by first | assumption | (simp [go_sem]; done) | (simp [*, go_sem]; done)); have s1_3 : w4.cell? ⟨w.heap.size + 1, 3, none⟩ = some (.slice none 0 0) := (hc _ _ (by go_size)).trans (by first | assumption | (simp [go_sem]; done) | (simp [*, go_sem]; done)); have f1_0 : w4.frozen? ⟨w.heap.size + 1, 0, none⟩ = false := (hf _ _ (by go_size)).trans (by first | assumption | (simp [go_sem]; done) | (simp [*, go_sem]; done)); have f1_1 : w4.frozen? ⟨w.heap.size + 1, 1, none⟩ = false := (hf _ _ (by go_size)).trans (by first | assumption | (simp [go_sem]; done) | (simp [*, go_sem]; done)); have f1_2 : w4.frozen? ⟨w.heap.size + 1, 2, none⟩ = false := (hf _ _ (by go_size)).trans (by first | assumption | (simp [go_sem]; done) | (simp [*, go_sem]; done)); have f1_3 : w4.frozen? ⟨w.heap.size + 1, 3, none⟩ = false := (hf _ _ (by go_size)).trans (by first | assumption | (simp [go_sem]; done) | (simp [*, go_sem]; done)); have hb34 : Below w3.heap.size w3 w4 := Below.trans (by go_grown) (hb.mono (by first | go_size | (simp; omega))); have hn3' := hn3.keep hb34; have hfr3' := hfr3.keep hb34; have hu3 := hfr3'.mono (B' := w.heap.size + 1 + 1) (by first | go_size | (simp; omega)); have hu4 := hfr4.mono (B' := w.heap.size + 1 + 1) (by first | go_size | (simp; omega))))
  all_goals go_wp2_with fail
  refine bodyPost_ret (v := .agg #[.bool g3, .slice a3 n3 c3, .bool g4, .slice a4 n4 c4]) (by simp [results, Tryz.results42, go_sem, s1_0, s1_1, s1_2, s1_3]) rfl ?_
  have u : w.heap.size + 1 < w.heap.size + 1 + 1 := Nat.lt_succ_self _
  refine ⟨g3, a3, n3, c3, g4, a4, n4, c4, rfl, ⟨?_, ?_, h.pos, ?_⟩, ?_, ?_, by go_grown⟩
  · exact hn3'.set4 hu3 ⟨w.heap.size + 1, 0, none⟩ ⟨w.heap.size + 1, 1, none⟩ ⟨w.heap.size + 1, 2, none⟩ ⟨w.heap.size + 1, 3, none⟩ _ _ _ _ u u u u
  · exact hn4.set4 hu4 ⟨w.heap.size + 1, 0, none⟩ ⟨w.heap.size + 1, 1, none⟩ ⟨w.heap.size + 1, 2, none⟩ ⟨w.heap.size + 1, 3, none⟩ _ _ _ _ u u u u
  · have := h.red; simpa [Int.gcd] using this
  · exact (hu3.set4 ⟨w.heap.size + 1, 0, none⟩ ⟨w.heap.size + 1, 1, none⟩ ⟨w.heap.size + 1, 2, none⟩ ⟨w.heap.size + 1, 3, none⟩ _ _ _ _ u u u u).mono (by omega)
  · exact (hu4.set4 ⟨w.heap.size + 1, 0, none⟩ ⟨w.heap.size + 1, 1, none⟩ ⟨w.heap.size + 1, 2, none⟩ ⟨w.heap.size + 1, 3, none⟩ _ _ _ _ u u u u).mono (by omega)

set_option maxRecDepth 100000 in
set_option maxHeartbeats 1000000 in
theorem rfText_c (w : World) (g1 : Bool) (a1 : Option Addr) (n1 c1 : Nat) (p : Int) (g2 : Bool) (a2 : Option Addr) (n2 c2 : Nat) (q : Int) (h : FracAt w g1 a1 n1 c1 p g2 a2 n2 c2 q) (hs : n2 ≤ 1) (hb1 : n1 ≤ 1000000) :
    Calls Tryz.prog 43 #[.agg #[.bool g1, .slice a1 n1 c1, .bool g2, .slice a2 n2 c2]] w (RetStr w (ftext p q)) := by
  have HB := Below.refl w.heap.size w
  have hl1 := itoa_len h.top
  have hl2 := itoa_len h.low
  go_enter Tryz.func43, Tryz.ntmps43
  go_wp2_with fail
  refine (rfFit_c _ _ _ _ _ _ _ _ _ _ _ (h.keep (by go_grown)) hs (by omega)).mono ?_
  rintro e w1 ⟨rfl, hb⟩
  obtain ⟨hc, hf⟩ := bcell hb; have hz := hb.size; (try simp only [World.size_alloc, World.size_drew] at hz)
  replace HB : Below w.heap.size w w1 := Below.trans (by go_grown) (hb.mono (by go_size))
  have s0_0 : w1.cell? ⟨w.heap.size, 0, none⟩ = some (.bool g1) := (hc _ _ (by go_size)).trans (by first | assumption | (simp [go_sem]; done) | (simp [*, go_sem]; done)); have s0_1 : w1.cell? ⟨w.heap.size, 1, none⟩ = some (.slice a1 n1 c1) := (hc _ _ (by go_size)).trans (by first | assumption | (simp [go_sem]; done) | (simp [*, go_sem]; done)); have s0_2 : w1.cell? ⟨w.heap.size, 2, none⟩ = some (.bool g2) := (hc _ _ (by go_size)).trans (by first | assumption | (simp [go_sem]; done) | (simp [*, go_sem]; done)); have s0_3 : w1.cell? ⟨w.heap.size, 3, none⟩ = some (.slice a2 n2 c2) := (hc _ _ (by go_size)).trans (by first | assumption | (simp [go_sem]; done) | (simp [*, go_sem]; done)); have f0_0 : w1.frozen? ⟨w.heap.size, 0, none⟩ = false := (hf _ _ (by go_size)).trans (by first | assumption | (simp [go_sem]; done) | (simp [*, go_sem]; done)); have f0_1 : w1.frozen? ⟨w.heap.size, 1, none⟩ = false := (hf _ _ (by go_size)).trans (by first | assumption | (simp [go_sem]; done) | (simp [*, go_sem]; done)); have f0_2 : w1.frozen? ⟨w.heap.size, 2, none⟩ = false := (hf _ _ (by go_size)).trans (by first | assumption | (simp [go_sem]; done) | (simp [*, go_sem]; done)); have f0_3 : w1.frozen? ⟨w.heap.size, 3, none⟩ = false := (hf _ _ (by go_size)).trans (by first | assumption | (simp [go_sem]; done) | (simp [*, go_sem]; done))
  have hk0 : w.heap.size < w1.heap.size := by omega
  clear hc hf hb hz
  go_upto_region 2 with fail
  have HB2 : Below w.heap.size w ((((w1.setCell ⟨w.heap.size, 0, none⟩ (.bool g1)).setCell ⟨w.heap.size, 1, none⟩ (.slice a1 n1 c1)).setCell ⟨w.heap.size, 2, none⟩ (.bool g2)).setCell ⟨w.heap.size, 3, none⟩ (.slice a2 n2 c2)) := by go_grown
  have t0_0 : ((((w1.setCell ⟨w.heap.size, 0, none⟩ (.bool g1)).setCell ⟨w.heap.size, 1, none⟩ (.slice a1 n1 c1)).setCell ⟨w.heap.size, 2, none⟩ (.bool g2)).setCell ⟨w.heap.size, 3, none⟩ (.slice a2 n2 c2)).cell? ⟨w.heap.size, 0, none⟩ = some (.bool g1) := by simp [*, go_sem]
  have t0_1 : ((((w1.setCell ⟨w.heap.size, 0, none⟩ (.bool g1)).setCell ⟨w.heap.size, 1, none⟩ (.slice a1 n1 c1)).setCell ⟨w.heap.size, 2, none⟩ (.bool g2)).setCell ⟨w.heap.size, 3, none⟩ (.slice a2 n2 c2)).cell? ⟨w.heap.size, 1, none⟩ = some (.slice a1 n1 c1) := by simp [*, go_sem]
  have t0_2 : ((((w1.setCell ⟨w.heap.size, 0, none⟩ (.bool g1)).setCell ⟨w.heap.size, 1, none⟩ (.slice a1 n1 c1)).setCell ⟨w.heap.size, 2, none⟩ (.bool g2)).setCell ⟨w.heap.size, 3, none⟩ (.slice a2 n2 c2)).cell? ⟨w.heap.size, 2, none⟩ = some (.bool g2) := by simp [*, go_sem]
  have t0_3 : ((((w1.setCell ⟨w.heap.size, 0, none⟩ (.bool g1)).setCell ⟨w.heap.size, 1, none⟩ (.slice a1 n1 c1)).setCell ⟨w.heap.size, 2, none⟩ (.bool g2)).setCell ⟨w.heap.size, 3, none⟩ (.slice a2 n2 c2)).cell? ⟨w.heap.size, 3, none⟩ = some (.slice a2 n2 c2) := by simp [*, go_sem]
  generalize ((((w1.setCell ⟨w.heap.size, 0, none⟩ (.bool g1)).setCell ⟨w.heap.size, 1, none⟩ (.slice a1 n1 c1)).setCell ⟨w.heap.size, 2, none⟩ (.bool g2)).setCell ⟨w.heap.size, 3, none⟩ (.slice a2 n2 c2)) = w2 at *
  clear s0_0 s0_1 s0_2 s0_3 f0_0 f0_1 f0_2 f0_3 HB
  have h2 := h.keep HB2
  have hk2 := HB2.size
  go_wp2_with fail
  refine (rOne_c _ _ _ _ _ _ h2.low).mono ?_
  rintro e w3 ⟨rfl, hb3⟩
  have t0_0 := cell_keep hb3 t0_0
  have t0_1 := cell_keep hb3 t0_1
  have t0_2 := cell_keep hb3 t0_2
  have t0_3 := cell_keep hb3 t0_3
  have h3 := h2.keep hb3
  have HB3 := HB2.trans (hb3.mono hk2)
  by_cases hq : q = 1
  · have HQ := Lib.hid hq
    rw [decide_eq_true hq]
    clear hq
    go_wp2_with fail
    refine (rText_c _ _ _ _ _ _ h3.top hb1).mono ?_
    rintro e w4 ⟨rfl, hb4⟩
    have HB4 := HB3.trans (hb4.mono HB3.size)
    go_wp2_with fail
    go_ret
    exact ⟨by rw [ftext, if_pos HQ.out, List.append_nil]; rfl, HB4⟩
  · have HQ := Lib.hid hq
    rw [decide_eq_false hq]
    clear hq
    have hcat1 : (⟨(Lib.itoa p).toArray⟩ : ByteArray).size + (⟨#[47]⟩ : ByteArray).size ≤ 9223372036854775807 := by show (Lib.itoa p).length + 1 ≤ _; omega
    obtain ⟨PS, hPS⟩ : ∃ PS, PS = Lib.itoa p ++ [47] := ⟨_, rfl⟩
    have happ1 : ((⟨(Lib.itoa p).toArray⟩ : ByteArray) ++ (⟨#[47]⟩ : ByteArray)) = ⟨PS.toArray⟩ := by rw [hPS]; exact ba_app _ [47]
    have hpl : PS.length = (Lib.itoa p).length + 1 := by rw [hPS, List.length_append]; rfl
    have hcat2 : (⟨PS.toArray⟩ : ByteArray).size + (⟨(Lib.itoa q).toArray⟩ : ByteArray).size ≤ 9223372036854775807 := by rw [ba_size, ba_size]; omega
    obtain ⟨R, hR⟩ : ∃ R, R = PS ++ Lib.itoa q := ⟨_, rfl⟩
    have happ2 : ((⟨PS.toArray⟩ : ByteArray) ++ (⟨(Lib.itoa q).toArray⟩ : ByteArray)) = ⟨R.toArray⟩ := by rw [hR]; exact ba_app _ _
    have hfin : Hid (R = ftext p q) := Lib.hid (by rw [hR, hPS, ftext, if_neg HQ.out, List.append_assoc]; rfl)
    clear hPS hR hpl
    replace t0_0 := growC t0_0
    replace t0_1 := growC t0_1
    replace t0_2 := growC t0_2
    replace t0_3 := growC t0_3
    go_wp2_with fail
    (refine wp_region_grow (by kernel_rfl) (by kernel_rfl) ?_; (repeat (go_big_quiet_step (first | (go_at_call 124; exact growL (rText_c _ _ _ _ _ p (h3.top.keep (Subtype.property _)) hb1)) | (go_at_call 124; exact growL (rText_c _ _ _ _ _ q (h3.low.keep (Subtype.property _)) (by omega)))))); refine wpQuiet_nil ?_; intro _ hw0; obtain ⟨nq, hw0⟩ := hw0; subst hw0)
    go_wp2_with fail
    go_ret
    exact ⟨by rw [← hfin.out]; rfl, HB3.trans (nq.2.mono HB3.size)⟩
end Go.Proofs.YtdamegaedmckbaaGreatDoor
