/- Package limbs: of, Cmp, Sign, of numbers that may be. No condition. -/
import Derived.Test.YtdamegaedmckbaaGreatDoorM1
set_option linter.unusedSimpArgs false
set_option linter.unusedVariables false
section
namespace Go.Proofs.YtdamegaedmckbaaGreatDoor
open Go.RowKit

/-- A number as it lies in memory: below 0 or not, and its parts. -/
structure NumAt (w : World) (g : Bool) (a : Option Addr) (n c : Nat) (z : Int) : Prop where
  neg : g = decide (z < 0)
  rd : RdL w a n c (dg z.natAbs)
theorem NumAt.keep {w w' : World} {g : Bool} {a : Option Addr} {n c : Nat} {z : Int} (h : NumAt w g a n c z) (hb : Below w.heap.size w w') : NumAt w' g a n c z := ⟨h.neg, h.rd.keep hb⟩
theorem NumAt.okay {w : World} {g : Bool} {a : Option Addr} {n c : Nat} {z : Int} (h : NumAt w g a n c z) : Okay g (dg z.natAbs) := by
  refine ⟨canon_dg _, fun e => ?_⟩
  have hv := val_dg z.natAbs
  rw [e, val] at hv
  rw [h.neg]
  simp
  omega
/-- A number that may be is some number. -/
theorem numAt_of_okay {w : World} {g : Bool} {a : Option Addr} {n c : Nat} {d : List Nat} (h : RdL w a n c d) (ho : Okay g d) : NumAt w g a n c (if g then -(val d : Int) else val d) := by
  have hd := dg_of_canon ho.1
  cases g
  · refine ⟨by simp, ?_⟩
    simp only [Bool.false_eq_true, if_false, Int.natAbs_natCast]
    rw [hd]; exact h
  · have hne : d ≠ [] := fun e => by have := ho.2 e; simp at this
    have := val_pos_of_canon ho.1 hne
    refine ⟨by simp; omega, ?_⟩
    simp only [if_true, Int.natAbs_neg, Int.natAbs_natCast]
    rw [hd]; exact h
def RetSame (w : World) (g : Bool) (a : Option Addr) (n c : Nat) (e : Ending) (w' : World) : Prop := e = .returned (.agg #[.bool g, .slice a n c]) ∧ Below w.heap.size w w'
theorem of_c (w : World) (g : Bool) (a : Option Addr) (n c : Nat) (z : Int) (h : NumAt w g a n c z) :
    Calls Tryz.prog 95 #[.agg #[.bool g, .slice a n c]] w (RetSame w g a n c) := by
  have HB := Below.refl w.heap.size w
  have ho := Lib.hid h.okay
  go_enter Tryz.func95, Tryz.ntmps95
  go_wp2_with fail
  refine (Check_c _ _ _ _ _ (dg z.natAbs) (h.rd.keep (by go_grown)) true ⟨fun _ => rfl, fun _ => ho.out⟩).mono ?_
  rintro e w1 ⟨rfl, hb⟩
  obtain ⟨hc, hf⟩ := bcell hb; have hz := hb.size; (try simp only [World.size_alloc, World.size_drew] at hz)
  replace HB : Below w.heap.size w w1 := Below.trans (by go_grown) (hb.mono (by go_size))
  have s0_0 : w1.cell? ⟨w.heap.size, 0, none⟩ = some (.bool g) := (hc _ _ (by go_size)).trans (by first | assumption | (simp [go_sem]; done)); have s0_1 : w1.cell? ⟨w.heap.size, 1, none⟩ = some (.slice a n c) := (hc _ _ (by go_size)).trans (by first | assumption | (simp [go_sem]; done)); have s1_0 : w1.cell? ⟨w.heap.size + 1, 0, none⟩ = some (.bool false) := (hc _ _ (by go_size)).trans (by first | assumption | (simp [go_sem]; done)); have s1_1 : w1.cell? ⟨w.heap.size + 1, 1, none⟩ = some (.slice none 0 0) := (hc _ _ (by go_size)).trans (by first | assumption | (simp [go_sem]; done)); have f1_0 : w1.frozen? ⟨w.heap.size + 1, 0, none⟩ = false := (hf _ _ (by go_size)).trans (by first | assumption | (simp [go_sem]; done)); have f1_1 : w1.frozen? ⟨w.heap.size + 1, 1, none⟩ = false := (hf _ _ (by go_size)).trans (by first | assumption | (simp [go_sem]; done))
  go_wp2_with fail
  refine bodyPost_ret (v := .agg #[.bool g, .slice a n c]) (by simp [results, Tryz.results95, go_sem, s1_0, s1_1]) rfl ?_
  exact ⟨rfl, by go_grown⟩
theorem cmpI_val {z z' : Int} : cmpI (val (dg z.natAbs)) (val (dg z'.natAbs)) = cmpI z.natAbs z'.natAbs := by rw [val_dg, val_dg]
theorem cmpI_congr {x y z t : Int} (h1 : x < y ↔ z < t) (h2 : x = y ↔ z = t) : cmpI x y = cmpI z t := by
  unfold cmpI
  simp only [h1, h2]
set_option maxHeartbeats 1000000 in
theorem Cmp_c (w : World) (g : Bool) (a : Option Addr) (n c : Nat) (z : Int) (h : NumAt w g a n c z) (g' : Bool) (a' : Option Addr) (n' c' : Nat) (z' : Int) (h' : NumAt w g' a' n' c' z') :
    Calls Tryz.prog 175 #[.agg #[.bool g, .slice a n c], .agg #[.bool g', .slice a' n' c']] w fun e w' => e = .returned (.int .i64 (cmpI z z')) ∧ Below w.heap.size w w' := by
  have HB := Below.refl w.heap.size w
  have hg := h.neg
  have hg' := h'.neg
  rcases Bool.eq_false_or_eq_true g with hgt | hgt <;> rcases Bool.eq_false_or_eq_true g' with hgt' | hgt' <;> subst hgt <;> subst hgt'
  · have hz : z < 0 := by simpa using hg.symm
    have hz' : z' < 0 := by simpa using hg'.symm
    have HR := Lib.hid (show cmpI z z' = cmpI (val (dg z'.natAbs)) (val (dg z.natAbs)) by rw [cmpI_val]; exact cmpI_congr (by omega) (by omega))
    clear hg hg' hz hz'
    go_enter Tryz.func175, Tryz.ntmps175
    go_wp2_with fail
    go_region_held3 (fun W => W.cell? ⟨w.heap.size, 0, none⟩ = some (.bool true) ∧ W.cell? ⟨w.heap.size, 1, none⟩ = some (.slice a n c) ∧ W.cell? ⟨w.heap.size + 1, 0, none⟩ = some (.bool true) ∧ W.cell? ⟨w.heap.size + 1, 1, none⟩ = some (.slice a' n' c')) (first | ((try dsimp only); (repeat' apply And.intro); all_goals (first | (with_reducible assumption) | (go_keep; done) | (simp [*, go_sem]; done)))) (first
      | (go_at_call 95; (with_reducible refine (of_c _ true a n c z (h.keep (by go_grown))).mono ?_); rintro e w1 ⟨rfl, hb⟩; obtain ⟨hc, hf⟩ := bcell hb; have hz := hb.size; (try simp only [World.size_alloc, World.size_drew] at hz); replace HB : Below w.heap.size w w1 := Below.trans (by go_grown) (hb.mono (by go_size)); have s0_0 : w1.cell? ⟨w.heap.size, 0, none⟩ = some (.bool true) := (hc _ _ (by go_size)).trans (by first | assumption | (simp [go_sem]; done)); have s0_1 : w1.cell? ⟨w.heap.size, 1, none⟩ = some (.slice a n c) := (hc _ _ (by go_size)).trans (by first | assumption | (simp [go_sem]; done)); have s1_0 : w1.cell? ⟨w.heap.size + 1, 0, none⟩ = some (.bool true) := (hc _ _ (by go_size)).trans (by first | assumption | (simp [go_sem]; done)); have s1_1 : w1.cell? ⟨w.heap.size + 1, 1, none⟩ = some (.slice a' n' c') := (hc _ _ (by go_size)).trans (by first | assumption | (simp [go_sem]; done)); have f0_0 : w1.frozen? ⟨w.heap.size, 0, none⟩ = false := (hf _ _ (by go_size)).trans (by first | assumption | (simp [go_sem]; done)); have f0_1 : w1.frozen? ⟨w.heap.size, 1, none⟩ = false := (hf _ _ (by go_size)).trans (by first | assumption | (simp [go_sem]; done)); have f1_0 : w1.frozen? ⟨w.heap.size + 1, 0, none⟩ = false := (hf _ _ (by go_size)).trans (by first | assumption | (simp [go_sem]; done)); have f1_1 : w1.frozen? ⟨w.heap.size + 1, 1, none⟩ = false := (hf _ _ (by go_size)).trans (by first | assumption | (simp [go_sem]; done)))
      | (go_at_call 95; (with_reducible refine (of_c _ true a' n' c' z' (h'.keep (by go_grown))).mono ?_); rintro e w1 ⟨rfl, hb⟩; obtain ⟨hc, hf⟩ := bcell hb; have hz := hb.size; (try simp only [World.size_alloc, World.size_drew] at hz); replace HB : Below w.heap.size w w1 := Below.trans (by go_grown) (hb.mono (by go_size)); have s0_0 : w1.cell? ⟨w.heap.size, 0, none⟩ = some (.bool true) := (hc _ _ (by go_size)).trans (by first | assumption | (simp [go_sem]; done)); have s0_1 : w1.cell? ⟨w.heap.size, 1, none⟩ = some (.slice a n c) := (hc _ _ (by go_size)).trans (by first | assumption | (simp [go_sem]; done)); have s1_0 : w1.cell? ⟨w.heap.size + 1, 0, none⟩ = some (.bool true) := (hc _ _ (by go_size)).trans (by first | assumption | (simp [go_sem]; done)); have s1_1 : w1.cell? ⟨w.heap.size + 1, 1, none⟩ = some (.slice a' n' c') := (hc _ _ (by go_size)).trans (by first | assumption | (simp [go_sem]; done)); have f0_0 : w1.frozen? ⟨w.heap.size, 0, none⟩ = false := (hf _ _ (by go_size)).trans (by first | assumption | (simp [go_sem]; done)); have f0_1 : w1.frozen? ⟨w.heap.size, 1, none⟩ = false := (hf _ _ (by go_size)).trans (by first | assumption | (simp [go_sem]; done)); have f1_0 : w1.frozen? ⟨w.heap.size + 1, 0, none⟩ = false := (hf _ _ (by go_size)).trans (by first | assumption | (simp [go_sem]; done)); have f1_1 : w1.frozen? ⟨w.heap.size + 1, 1, none⟩ = false := (hf _ _ (by go_size)).trans (by first | assumption | (simp [go_sem]; done))))
    replace HB : Below w.heap.size w ((((w1.setCell ⟨w.heap.size, 0, none⟩ (.bool true)).setCell ⟨w.heap.size, 1, none⟩ (.slice a n c)).setCell ⟨w.heap.size + 1, 0, none⟩ (.bool true)).setCell ⟨w.heap.size + 1, 1, none⟩ (.slice a' n' c')) := by go_grown
    go_wp2_with fail
    refine (amounts_c _ _ _ _ (dg z'.natAbs) _ _ _ (dg z.natAbs) (h'.rd.keep HB) (h.rd.keep HB) (canon_dg _) (canon_dg _)).mono ?_
    rintro e w2 ⟨rfl, hb2⟩
    replace HB := HB.trans (hb2.mono HB.size)
    go_wp2_with fail
    go_ret
    exact ⟨by rw [HR.out]; rfl, HB⟩
  · have hz : z < 0 := by simpa using hg.symm
    have hz' : ¬ z' < 0 := by simpa using hg'.symm
    have HR := Lib.hid (show cmpI z z' = -1 from cmpI_lt (by omega))
    clear hg hg' hz hz'
    go_enter Tryz.func175, Tryz.ntmps175
    go_wp2_with fail
    go_region_held3 (fun W => W.cell? ⟨w.heap.size, 0, none⟩ = some (.bool true) ∧ W.cell? ⟨w.heap.size, 1, none⟩ = some (.slice a n c) ∧ W.cell? ⟨w.heap.size + 1, 0, none⟩ = some (.bool false) ∧ W.cell? ⟨w.heap.size + 1, 1, none⟩ = some (.slice a' n' c')) (first | ((try dsimp only); (repeat' apply And.intro); all_goals (first | (with_reducible assumption) | (go_keep; done) | (simp [*, go_sem]; done)))) (first
      | (go_at_call 95; (with_reducible refine (of_c _ true a n c z (h.keep (by go_grown))).mono ?_); rintro e w1 ⟨rfl, hb⟩; obtain ⟨hc, hf⟩ := bcell hb; have hz := hb.size; (try simp only [World.size_alloc, World.size_drew] at hz); replace HB : Below w.heap.size w w1 := Below.trans (by go_grown) (hb.mono (by go_size)); have s0_0 : w1.cell? ⟨w.heap.size, 0, none⟩ = some (.bool true) := (hc _ _ (by go_size)).trans (by first | assumption | (simp [go_sem]; done)); have s0_1 : w1.cell? ⟨w.heap.size, 1, none⟩ = some (.slice a n c) := (hc _ _ (by go_size)).trans (by first | assumption | (simp [go_sem]; done)); have s1_0 : w1.cell? ⟨w.heap.size + 1, 0, none⟩ = some (.bool false) := (hc _ _ (by go_size)).trans (by first | assumption | (simp [go_sem]; done)); have s1_1 : w1.cell? ⟨w.heap.size + 1, 1, none⟩ = some (.slice a' n' c') := (hc _ _ (by go_size)).trans (by first | assumption | (simp [go_sem]; done)); have f0_0 : w1.frozen? ⟨w.heap.size, 0, none⟩ = false := (hf _ _ (by go_size)).trans (by first | assumption | (simp [go_sem]; done)); have f0_1 : w1.frozen? ⟨w.heap.size, 1, none⟩ = false := (hf _ _ (by go_size)).trans (by first | assumption | (simp [go_sem]; done)); have f1_0 : w1.frozen? ⟨w.heap.size + 1, 0, none⟩ = false := (hf _ _ (by go_size)).trans (by first | assumption | (simp [go_sem]; done)); have f1_1 : w1.frozen? ⟨w.heap.size + 1, 1, none⟩ = false := (hf _ _ (by go_size)).trans (by first | assumption | (simp [go_sem]; done)))
      | (go_at_call 95; (with_reducible refine (of_c _ false a' n' c' z' (h'.keep (by go_grown))).mono ?_); rintro e w1 ⟨rfl, hb⟩; obtain ⟨hc, hf⟩ := bcell hb; have hz := hb.size; (try simp only [World.size_alloc, World.size_drew] at hz); replace HB : Below w.heap.size w w1 := Below.trans (by go_grown) (hb.mono (by go_size)); have s0_0 : w1.cell? ⟨w.heap.size, 0, none⟩ = some (.bool true) := (hc _ _ (by go_size)).trans (by first | assumption | (simp [go_sem]; done)); have s0_1 : w1.cell? ⟨w.heap.size, 1, none⟩ = some (.slice a n c) := (hc _ _ (by go_size)).trans (by first | assumption | (simp [go_sem]; done)); have s1_0 : w1.cell? ⟨w.heap.size + 1, 0, none⟩ = some (.bool false) := (hc _ _ (by go_size)).trans (by first | assumption | (simp [go_sem]; done)); have s1_1 : w1.cell? ⟨w.heap.size + 1, 1, none⟩ = some (.slice a' n' c') := (hc _ _ (by go_size)).trans (by first | assumption | (simp [go_sem]; done)); have f0_0 : w1.frozen? ⟨w.heap.size, 0, none⟩ = false := (hf _ _ (by go_size)).trans (by first | assumption | (simp [go_sem]; done)); have f0_1 : w1.frozen? ⟨w.heap.size, 1, none⟩ = false := (hf _ _ (by go_size)).trans (by first | assumption | (simp [go_sem]; done)); have f1_0 : w1.frozen? ⟨w.heap.size + 1, 0, none⟩ = false := (hf _ _ (by go_size)).trans (by first | assumption | (simp [go_sem]; done)); have f1_1 : w1.frozen? ⟨w.heap.size + 1, 1, none⟩ = false := (hf _ _ (by go_size)).trans (by first | assumption | (simp [go_sem]; done))))
    replace HB : Below w.heap.size w ((((w1.setCell ⟨w.heap.size, 0, none⟩ (.bool true)).setCell ⟨w.heap.size, 1, none⟩ (.slice a n c)).setCell ⟨w.heap.size + 1, 0, none⟩ (.bool false)).setCell ⟨w.heap.size + 1, 1, none⟩ (.slice a' n' c')) := by go_grown
    go_wp2_with fail
    go_ret
    exact ⟨by rw [HR.out]; rfl, HB⟩
  · have hz : ¬ z < 0 := by simpa using hg.symm
    have hz' : z' < 0 := by simpa using hg'.symm
    have HR := Lib.hid (show cmpI z z' = 1 from cmpI_gt (by omega))
    clear hg hg' hz hz'
    go_enter Tryz.func175, Tryz.ntmps175
    go_wp2_with fail
    go_region_held3 (fun W => W.cell? ⟨w.heap.size, 0, none⟩ = some (.bool false) ∧ W.cell? ⟨w.heap.size, 1, none⟩ = some (.slice a n c) ∧ W.cell? ⟨w.heap.size + 1, 0, none⟩ = some (.bool true) ∧ W.cell? ⟨w.heap.size + 1, 1, none⟩ = some (.slice a' n' c')) (first | ((try dsimp only); (repeat' apply And.intro); all_goals (first | (with_reducible assumption) | (go_keep; done) | (simp [*, go_sem]; done)))) (first
      | (go_at_call 95; (with_reducible refine (of_c _ false a n c z (h.keep (by go_grown))).mono ?_); rintro e w1 ⟨rfl, hb⟩; obtain ⟨hc, hf⟩ := bcell hb; have hz := hb.size; (try simp only [World.size_alloc, World.size_drew] at hz); replace HB : Below w.heap.size w w1 := Below.trans (by go_grown) (hb.mono (by go_size)); have s0_0 : w1.cell? ⟨w.heap.size, 0, none⟩ = some (.bool false) := (hc _ _ (by go_size)).trans (by first | assumption | (simp [go_sem]; done)); have s0_1 : w1.cell? ⟨w.heap.size, 1, none⟩ = some (.slice a n c) := (hc _ _ (by go_size)).trans (by first | assumption | (simp [go_sem]; done)); have s1_0 : w1.cell? ⟨w.heap.size + 1, 0, none⟩ = some (.bool true) := (hc _ _ (by go_size)).trans (by first | assumption | (simp [go_sem]; done)); have s1_1 : w1.cell? ⟨w.heap.size + 1, 1, none⟩ = some (.slice a' n' c') := (hc _ _ (by go_size)).trans (by first | assumption | (simp [go_sem]; done)); have f0_0 : w1.frozen? ⟨w.heap.size, 0, none⟩ = false := (hf _ _ (by go_size)).trans (by first | assumption | (simp [go_sem]; done)); have f0_1 : w1.frozen? ⟨w.heap.size, 1, none⟩ = false := (hf _ _ (by go_size)).trans (by first | assumption | (simp [go_sem]; done)); have f1_0 : w1.frozen? ⟨w.heap.size + 1, 0, none⟩ = false := (hf _ _ (by go_size)).trans (by first | assumption | (simp [go_sem]; done)); have f1_1 : w1.frozen? ⟨w.heap.size + 1, 1, none⟩ = false := (hf _ _ (by go_size)).trans (by first | assumption | (simp [go_sem]; done)))
      | (go_at_call 95; (with_reducible refine (of_c _ true a' n' c' z' (h'.keep (by go_grown))).mono ?_); rintro e w1 ⟨rfl, hb⟩; obtain ⟨hc, hf⟩ := bcell hb; have hz := hb.size; (try simp only [World.size_alloc, World.size_drew] at hz); replace HB : Below w.heap.size w w1 := Below.trans (by go_grown) (hb.mono (by go_size)); have s0_0 : w1.cell? ⟨w.heap.size, 0, none⟩ = some (.bool false) := (hc _ _ (by go_size)).trans (by first | assumption | (simp [go_sem]; done)); have s0_1 : w1.cell? ⟨w.heap.size, 1, none⟩ = some (.slice a n c) := (hc _ _ (by go_size)).trans (by first | assumption | (simp [go_sem]; done)); have s1_0 : w1.cell? ⟨w.heap.size + 1, 0, none⟩ = some (.bool true) := (hc _ _ (by go_size)).trans (by first | assumption | (simp [go_sem]; done)); have s1_1 : w1.cell? ⟨w.heap.size + 1, 1, none⟩ = some (.slice a' n' c') := (hc _ _ (by go_size)).trans (by first | assumption | (simp [go_sem]; done)); have f0_0 : w1.frozen? ⟨w.heap.size, 0, none⟩ = false := (hf _ _ (by go_size)).trans (by first | assumption | (simp [go_sem]; done)); have f0_1 : w1.frozen? ⟨w.heap.size, 1, none⟩ = false := (hf _ _ (by go_size)).trans (by first | assumption | (simp [go_sem]; done)); have f1_0 : w1.frozen? ⟨w.heap.size + 1, 0, none⟩ = false := (hf _ _ (by go_size)).trans (by first | assumption | (simp [go_sem]; done)); have f1_1 : w1.frozen? ⟨w.heap.size + 1, 1, none⟩ = false := (hf _ _ (by go_size)).trans (by first | assumption | (simp [go_sem]; done))))
    replace HB : Below w.heap.size w ((((w1.setCell ⟨w.heap.size, 0, none⟩ (.bool false)).setCell ⟨w.heap.size, 1, none⟩ (.slice a n c)).setCell ⟨w.heap.size + 1, 0, none⟩ (.bool true)).setCell ⟨w.heap.size + 1, 1, none⟩ (.slice a' n' c')) := by go_grown
    go_wp2_with fail
    go_ret
    exact ⟨by rw [HR.out]; rfl, HB⟩
  · have hz : ¬ z < 0 := by simpa using hg.symm
    have hz' : ¬ z' < 0 := by simpa using hg'.symm
    have HR := Lib.hid (show cmpI z z' = cmpI (val (dg z.natAbs)) (val (dg z'.natAbs)) by rw [cmpI_val]; exact cmpI_congr (by omega) (by omega))
    clear hg hg' hz hz'
    go_enter Tryz.func175, Tryz.ntmps175
    go_wp2_with fail
    go_region_held3 (fun W => W.cell? ⟨w.heap.size, 0, none⟩ = some (.bool false) ∧ W.cell? ⟨w.heap.size, 1, none⟩ = some (.slice a n c) ∧ W.cell? ⟨w.heap.size + 1, 0, none⟩ = some (.bool false) ∧ W.cell? ⟨w.heap.size + 1, 1, none⟩ = some (.slice a' n' c')) (first | ((try dsimp only); (repeat' apply And.intro); all_goals (first | (with_reducible assumption) | (go_keep; done) | (simp [*, go_sem]; done)))) (first
      | (go_at_call 95; (with_reducible refine (of_c _ false a n c z (h.keep (by go_grown))).mono ?_); rintro e w1 ⟨rfl, hb⟩; obtain ⟨hc, hf⟩ := bcell hb; have hz := hb.size; (try simp only [World.size_alloc, World.size_drew] at hz); replace HB : Below w.heap.size w w1 := Below.trans (by go_grown) (hb.mono (by go_size)); have s0_0 : w1.cell? ⟨w.heap.size, 0, none⟩ = some (.bool false) := (hc _ _ (by go_size)).trans (by first | assumption | (simp [go_sem]; done)); have s0_1 : w1.cell? ⟨w.heap.size, 1, none⟩ = some (.slice a n c) := (hc _ _ (by go_size)).trans (by first | assumption | (simp [go_sem]; done)); have s1_0 : w1.cell? ⟨w.heap.size + 1, 0, none⟩ = some (.bool false) := (hc _ _ (by go_size)).trans (by first | assumption | (simp [go_sem]; done)); have s1_1 : w1.cell? ⟨w.heap.size + 1, 1, none⟩ = some (.slice a' n' c') := (hc _ _ (by go_size)).trans (by first | assumption | (simp [go_sem]; done)); have f0_0 : w1.frozen? ⟨w.heap.size, 0, none⟩ = false := (hf _ _ (by go_size)).trans (by first | assumption | (simp [go_sem]; done)); have f0_1 : w1.frozen? ⟨w.heap.size, 1, none⟩ = false := (hf _ _ (by go_size)).trans (by first | assumption | (simp [go_sem]; done)); have f1_0 : w1.frozen? ⟨w.heap.size + 1, 0, none⟩ = false := (hf _ _ (by go_size)).trans (by first | assumption | (simp [go_sem]; done)); have f1_1 : w1.frozen? ⟨w.heap.size + 1, 1, none⟩ = false := (hf _ _ (by go_size)).trans (by first | assumption | (simp [go_sem]; done)))
      | (go_at_call 95; (with_reducible refine (of_c _ false a' n' c' z' (h'.keep (by go_grown))).mono ?_); rintro e w1 ⟨rfl, hb⟩; obtain ⟨hc, hf⟩ := bcell hb; have hz := hb.size; (try simp only [World.size_alloc, World.size_drew] at hz); replace HB : Below w.heap.size w w1 := Below.trans (by go_grown) (hb.mono (by go_size)); have s0_0 : w1.cell? ⟨w.heap.size, 0, none⟩ = some (.bool false) := (hc _ _ (by go_size)).trans (by first | assumption | (simp [go_sem]; done)); have s0_1 : w1.cell? ⟨w.heap.size, 1, none⟩ = some (.slice a n c) := (hc _ _ (by go_size)).trans (by first | assumption | (simp [go_sem]; done)); have s1_0 : w1.cell? ⟨w.heap.size + 1, 0, none⟩ = some (.bool false) := (hc _ _ (by go_size)).trans (by first | assumption | (simp [go_sem]; done)); have s1_1 : w1.cell? ⟨w.heap.size + 1, 1, none⟩ = some (.slice a' n' c') := (hc _ _ (by go_size)).trans (by first | assumption | (simp [go_sem]; done)); have f0_0 : w1.frozen? ⟨w.heap.size, 0, none⟩ = false := (hf _ _ (by go_size)).trans (by first | assumption | (simp [go_sem]; done)); have f0_1 : w1.frozen? ⟨w.heap.size, 1, none⟩ = false := (hf _ _ (by go_size)).trans (by first | assumption | (simp [go_sem]; done)); have f1_0 : w1.frozen? ⟨w.heap.size + 1, 0, none⟩ = false := (hf _ _ (by go_size)).trans (by first | assumption | (simp [go_sem]; done)); have f1_1 : w1.frozen? ⟨w.heap.size + 1, 1, none⟩ = false := (hf _ _ (by go_size)).trans (by first | assumption | (simp [go_sem]; done))))
    replace HB : Below w.heap.size w ((((w1.setCell ⟨w.heap.size, 0, none⟩ (.bool false)).setCell ⟨w.heap.size, 1, none⟩ (.slice a n c)).setCell ⟨w.heap.size + 1, 0, none⟩ (.bool false)).setCell ⟨w.heap.size + 1, 1, none⟩ (.slice a' n' c')) := by go_grown
    go_wp2_with fail
    refine (amounts_c _ _ _ _ (dg z.natAbs) _ _ _ (dg z'.natAbs) (h.rd.keep HB) (h'.rd.keep HB) (canon_dg _) (canon_dg _)).mono ?_
    rintro e w2 ⟨rfl, hb2⟩
    replace HB := HB.trans (hb2.mono HB.size)
    go_wp2_with fail
    go_ret
    exact ⟨by rw [HR.out]; rfl, HB⟩
theorem numAt_nil (w : World) : NumAt w false none 0 0 0 := by
  refine ⟨rfl, ?_⟩
  rw [show (0 : Int).natAbs = 0 from rfl, dg_zero]
  exact ⟨rfl, Nat.le_refl _, by omega, by omega, fun i => by simp [lim], .inl rfl⟩
theorem Sign_c (w : World) (g : Bool) (a : Option Addr) (n c : Nat) (z : Int) (h : NumAt w g a n c z) :
    Calls Tryz.prog 107 #[.agg #[.bool g, .slice a n c]] w fun e w' => e = .returned (.int .i64 (cmpI z 0)) ∧ Below w.heap.size w w' := by
  have HB := Below.refl w.heap.size w
  go_enter Tryz.func107, Tryz.ntmps107
  go_wp2_with (go_at_call 175; refine (Cmp_c _ _ _ _ _ z (h.keep (by go_grown)) _ _ _ _ 0 (numAt_nil _)).mono ?_; rintro e w' ⟨rfl, hb⟩; obtain ⟨hc, hf⟩ := bcell hb; have hz := hb.size; replace HB : Below w.heap.size w w' := Below.trans (by go_grown) (hb.mono (by go_size)); have HBz := HB.size)
  go_ret
  exact ⟨rfl, HB⟩
end Go.Proofs.YtdamegaedmckbaaGreatDoor
end
