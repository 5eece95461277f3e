/- Package fracs: Mul, of, Of. No further condition. Package fracs and the document's twin: Of; of, at a fraction without numbers; Make. No further condition. -/
import Derived.Test.YtdamegaedmckbaaGreatDoorX18
import Derived.Test.YtdamegaedmckbaaGreatDoorX9
set_option linter.unusedSimpArgs false
set_option linter.unusedVariables false
section
namespace Go.Proofs.YtdamegaedmckbaaGreatDoor
open Go.RowKit

/-- What 'of' answers: a fraction that may be, p over q, of few parts. -/
def RetOf (w0 w : World) (p q : Int) (m : Nat) (e : Ending) (w' : World) : Prop :=
  ∃ g1 a1 n1 c1 g2 a2 n2 c2, e = .returned (.agg #[.bool g1, .slice a1 n1 c1, .bool g2, .slice a2 n2 c2]) ∧ FracAt w' g1 a1 n1 c1 p g2 a2 n2 c2 q ∧ n1 ≤ m ∧ n2 ≤ m ∧ (FracAt w0 g1 a1 n1 c1 p g2 a2 n2 c2 q ∨ (Fresh w.heap.size w' a1 c1 ∧ Fresh w.heap.size w' a2 c2)) ∧ Below w.heap.size w w'
set_option maxRecDepth 100000 in
set_option maxHeartbeats 2000000 in
theorem fMul_g (w : World) (g1 : Bool) (a1 : Option Addr) (n1 c1 : Nat) (p : Int) (g2 : Bool) (a2 : Option Addr) (n2 c2 : Nat) (q : Int) (h : FracAt w g1 a1 n1 c1 p g2 a2 n2 c2 q)
    (g3 : Bool) (a3 : Option Addr) (n3 c3 : Nat) (p' : Int) (g4 : Bool) (a4 : Option Addr) (n4 c4 : Nat) (q' : Int) (m : Nat) (hof : ∀ W, Below w.heap.size w W → Calls Tryz.prog 108 #[.agg #[.bool g3, .slice a3 n3 c3, .bool g4, .slice a4 n4 c4]] W (RetOf w W p' q' m)) (hb1 : n1 ≤ 1000000000) (hb2 : n2 ≤ 1000000000) (hm : m ≤ 1000000000) :
    Calls Tryz.prog 106 #[.agg #[.bool g1, .slice a1 n1 c1, .bool g2, .slice a2 n2 c2], .agg #[.bool g3, .slice a3 n3 c3, .bool g4, .slice a4 n4 c4]] w (RetFrac w (lowP (p * p') (q * q')) (lowQ (p * p') (q * q'))) := by
  have HB := Below.refl w.heap.size w
  have HOF := Lib.hid hof
  clear hof
  go_enter Tryz.func106, Tryz.ntmps106
  go_wp2_with fail
  refine wp_region_C (fun W => W.cell? ⟨w.heap.size, 0, none⟩ = some (.bool g1) ∧ W.cell? ⟨w.heap.size, 1, none⟩ = some (.slice a1 n1 c1) ∧ W.cell? ⟨w.heap.size, 2, none⟩ = some (.bool g2) ∧ W.cell? ⟨w.heap.size, 3, none⟩ = some (.slice a2 n2 c2) ∧ W.cell? ⟨w.heap.size + 1, 0, none⟩ = some (.bool g3) ∧ W.cell? ⟨w.heap.size + 1, 1, none⟩ = some (.slice a3 n3 c3) ∧ W.cell? ⟨w.heap.size + 1, 2, none⟩ = some (.bool g4) ∧ W.cell? ⟨w.heap.size + 1, 3, none⟩ = some (.slice a4 n4 c4)) 4 (by kernel_rfl) (by ((try dsimp only); (repeat' apply And.intro); all_goals (first | (with_reducible assumption) | (go_keep; done) | (simp [*, go_sem]; done)))) (fun hHeld => ?_)
  (refine AnyC.take 1 (i := 0) (v := ?_) rfl (by kernel_rfl) (fun _ _ _ h => h) (Or.inl ⟨by rfl, ?_⟩) (by assumption) ?_; rotate_left; (focus (intro w' hSw; (try dsimp only at hSw); go_simp; (try with_reducible rfl))); (try simp only [Act.put, List.setIfInBounds_toArray, List.set_cons_zero, List.set_cons_succ]))
  (refine AnyC.take 3 (i := 2) (v := ?_) rfl (by kernel_rfl) (fun _ _ _ h => h) (Or.inl ⟨by rfl, ?_⟩) (by assumption) ?_; rotate_left; (focus (intro w' hSw; (try dsimp only at hSw); go_simp; (try with_reducible rfl))); (try simp only [Act.put, List.setIfInBounds_toArray, List.set_cons_zero, List.set_cons_succ]))
  (refine AnyC.one (i := 1) rfl (by kernel_rfl) (fun K hK => ?_); go_simp; (go_at_call 108; (with_reducible refine (fof_c _ _ _ _ _ _ _ _ _ _ _ (h.keep (by go_grown)) (by omega) (by omega)).mono ?_); rintro e w1 ⟨rfl, hb⟩; obtain ⟨hc, hf⟩ := bcell hb; have hz := hb.size; (try simp only [World.size_alloc, World.size_drew] at hz); replace HB : Below w.heap.size w w1 := Below.trans (by go_grown) (hb.mono (by go_size)); have s0_0 : w1.cell? ⟨w.heap.size, 0, none⟩ = some (.bool g1) := (hc _ _ (by go_size)).trans (by first | assumption | (simp [go_sem]; done)); have s0_1 : w1.cell? ⟨w.heap.size, 1, none⟩ = some (.slice a1 n1 c1) := (hc _ _ (by go_size)).trans (by first | assumption | (simp [go_sem]; done)); have s0_2 : w1.cell? ⟨w.heap.size, 2, none⟩ = some (.bool g2) := (hc _ _ (by go_size)).trans (by first | assumption | (simp [go_sem]; done)); have s0_3 : w1.cell? ⟨w.heap.size, 3, none⟩ = some (.slice a2 n2 c2) := (hc _ _ (by go_size)).trans (by first | assumption | (simp [go_sem]; done)); have s1_0 : w1.cell? ⟨w.heap.size + 1, 0, none⟩ = some (.bool g3) := (hc _ _ (by go_size)).trans (by first | assumption | (simp [go_sem]; done)); have s1_1 : w1.cell? ⟨w.heap.size + 1, 1, none⟩ = some (.slice a3 n3 c3) := (hc _ _ (by go_size)).trans (by first | assumption | (simp [go_sem]; done)); have s1_2 : w1.cell? ⟨w.heap.size + 1, 2, none⟩ = some (.bool g4) := (hc _ _ (by go_size)).trans (by first | assumption | (simp [go_sem]; done)); have s1_3 : w1.cell? ⟨w.heap.size + 1, 3, none⟩ = some (.slice a4 n4 c4) := (hc _ _ (by go_size)).trans (by first | assumption | (simp [go_sem]; done)); have s2_0 : w1.cell? ⟨w.heap.size + 1 + 1, 0, none⟩ = some (.bool false) := (hc _ _ (by go_size)).trans (by first | assumption | (simp [go_sem]; done)); have s2_1 : w1.cell? ⟨w.heap.size + 1 + 1, 1, none⟩ = some (.slice none 0 0) := (hc _ _ (by go_size)).trans (by first | assumption | (simp [go_sem]; done)); have s2_2 : w1.cell? ⟨w.heap.size + 1 + 1, 2, none⟩ = some (.bool false) := (hc _ _ (by go_size)).trans (by first | assumption | (simp [go_sem]; done)); have s2_3 : w1.cell? ⟨w.heap.size + 1 + 1, 3, none⟩ = some (.slice none 0 0) := (hc _ _ (by go_size)).trans (by first | assumption | (simp [go_sem]; done)); have f2_0 : w1.frozen? ⟨w.heap.size + 1 + 1, 0, none⟩ = false := (hf _ _ (by go_size)).trans (by first | assumption | (simp [go_sem]; done)); have f2_1 : w1.frozen? ⟨w.heap.size + 1 + 1, 1, none⟩ = false := (hf _ _ (by go_size)).trans (by first | assumption | (simp [go_sem]; done)); have f2_2 : w1.frozen? ⟨w.heap.size + 1 + 1, 2, none⟩ = false := (hf _ _ (by go_size)).trans (by first | assumption | (simp [go_sem]; done)); have f2_3 : w1.frozen? ⟨w.heap.size + 1 + 1, 3, none⟩ = false := (hf _ _ (by go_size)).trans (by first | assumption | (simp [go_sem]; done)); have f0_0 : w1.frozen? ⟨w.heap.size, 0, none⟩ = false := (hf _ _ (by go_size)).trans (by first | assumption | (simp [go_sem]; done)); have f0_1 : w1.frozen? ⟨w.heap.size, 1, none⟩ = false := (hf _ _ (by go_size)).trans (by first | assumption | (simp [go_sem]; done)); have f0_2 : w1.frozen? ⟨w.heap.size, 2, none⟩ = false := (hf _ _ (by go_size)).trans (by first | assumption | (simp [go_sem]; done)); have f0_3 : w1.frozen? ⟨w.heap.size, 3, none⟩ = false := (hf _ _ (by go_size)).trans (by first | assumption | (simp [go_sem]; done)); have f1_0 : w1.frozen? ⟨w.heap.size + 1, 0, none⟩ = false := (hf _ _ (by go_size)).trans (by first | assumption | (simp [go_sem]; done)); have f1_1 : w1.frozen? ⟨w.heap.size + 1, 1, none⟩ = false := (hf _ _ (by go_size)).trans (by first | assumption | (simp [go_sem]; done)); have f1_2 : w1.frozen? ⟨w.heap.size + 1, 2, none⟩ = false := (hf _ _ (by go_size)).trans (by first | assumption | (simp [go_sem]; done)); have f1_3 : w1.frozen? ⟨w.heap.size + 1, 3, none⟩ = false := (hf _ _ (by go_size)).trans (by first | assumption | (simp [go_sem]; done))); (try go_wp2_with fail); refine hK.out _ _ (fun _ => (by ((try dsimp only); (repeat' apply And.intro); all_goals (first | (with_reducible assumption) | (go_keep; done) | (simp [*, go_sem]; done))))) ?_; clear hK K; (try simp only [Act.put, List.setIfInBounds_toArray, List.set_cons_zero, List.set_cons_succ]))
  (refine AnyC.one (i := 3) rfl (by kernel_rfl) (fun K hK => ?_); go_simp; (go_at_call 108; (with_reducible refine (HOF.out _ (by go_grown)).mono ?_); rintro e w2 ⟨g5, a5, n5, c5, g6, a6, n6, c6, rfl, hF, hm5, hm6, hold, hb2⟩; have hb12 : Below w1.heap.size w1 w2 := Below.trans (by first|assumption|go_grown) (hb2.mono (by go_size)); have hsz2 := hb12.size; (replace f0_0 := (Below.frozen hb12 (World.block_lt_of_cell? _ _ s0_0)).trans f0_0; replace s0_0 := cell_keep hb12 s0_0; replace f0_1 := (Below.frozen hb12 (World.block_lt_of_cell? _ _ s0_1)).trans f0_1; replace s0_1 := cell_keep hb12 s0_1; replace f0_2 := (Below.frozen hb12 (World.block_lt_of_cell? _ _ s0_2)).trans f0_2; replace s0_2 := cell_keep hb12 s0_2; replace f0_3 := (Below.frozen hb12 (World.block_lt_of_cell? _ _ s0_3)).trans f0_3; replace s0_3 := cell_keep hb12 s0_3; replace f1_0 := (Below.frozen hb12 (World.block_lt_of_cell? _ _ s1_0)).trans f1_0; replace s1_0 := cell_keep hb12 s1_0; replace f1_1 := (Below.frozen hb12 (World.block_lt_of_cell? _ _ s1_1)).trans f1_1; replace s1_1 := cell_keep hb12 s1_1; replace f1_2 := (Below.frozen hb12 (World.block_lt_of_cell? _ _ s1_2)).trans f1_2; replace s1_2 := cell_keep hb12 s1_2; replace f1_3 := (Below.frozen hb12 (World.block_lt_of_cell? _ _ s1_3)).trans f1_3; replace s1_3 := cell_keep hb12 s1_3; replace f2_0 := (Below.frozen hb12 (World.block_lt_of_cell? _ _ s2_0)).trans f2_0; replace s2_0 := cell_keep hb12 s2_0; replace f2_1 := (Below.frozen hb12 (World.block_lt_of_cell? _ _ s2_1)).trans f2_1; replace s2_1 := cell_keep hb12 s2_1; replace f2_2 := (Below.frozen hb12 (World.block_lt_of_cell? _ _ s2_2)).trans f2_2; replace s2_2 := cell_keep hb12 s2_2; replace f2_3 := (Below.frozen hb12 (World.block_lt_of_cell? _ _ s2_3)).trans f2_3; replace s2_3 := cell_keep hb12 s2_3); replace HB := HB.trans (hb12.mono HB.size)); (try go_wp2_with fail); refine hK.out _ _ (fun _ => (by ((try dsimp only); (repeat' apply And.intro); all_goals (first | (with_reducible assumption) | (go_keep; done) | (simp [*, go_sem]; done))))) ?_; clear hK K; (try simp only [Act.put, List.setIfInBounds_toArray, List.set_cons_zero, List.set_cons_succ]))
  (refine AnyC.one (i := 4) rfl (by kernel_rfl) (fun K hK => ?_); go_simp; refine hK.out _ _ (fun h => absurd h (by decide)) ?_; clear hK K; (try simp only [Act.put, List.setIfInBounds_toArray, List.set_cons_zero, List.set_cons_succ]))
  (refine AnyC.one (i := 5) rfl (by kernel_rfl) (fun K hK => ?_); go_simp; refine hK.out _ _ (fun h => absurd h (by decide)) ?_; clear hK K; (try simp only [Act.put, List.setIfInBounds_toArray, List.set_cons_zero, List.set_cons_succ]))
  refine AnyC.done (by kernel_rfl) ?_ _
  have hk2 : w.heap.size + 1 + 1 < w2.heap.size := World.block_lt_of_cell? _ _ s2_0
  have hk1 := HB.size
  go_upto_region 2 with fail
  refine wp_name ?_
  intro w3 hw3
  have HB3 : Below w.heap.size w w3 := by rw [hw3]; go_grown
  have A0 : w3.cell? ⟨w.heap.size, 0, none⟩ = some (.bool g1) := by rw [hw3]; simp [*, go_sem]
  have A1 : w3.cell? ⟨w.heap.size, 1, none⟩ = some (.slice a1 n1 c1) := by rw [hw3]; simp [*, go_sem]
  have A2 : w3.cell? ⟨w.heap.size, 2, none⟩ = some (.bool g2) := by rw [hw3]; simp [*, go_sem]
  have A3 : w3.cell? ⟨w.heap.size, 3, none⟩ = some (.slice a2 n2 c2) := by rw [hw3]; simp [*, go_sem]
  have B0 : w3.cell? ⟨w.heap.size + 1, 0, none⟩ = some (.bool g5) := by rw [hw3]; simp [*, go_sem]
  have B1 : w3.cell? ⟨w.heap.size + 1, 1, none⟩ = some (.slice a5 n5 c5) := by rw [hw3]; simp [*, go_sem]
  have B2 : w3.cell? ⟨w.heap.size + 1, 2, none⟩ = some (.bool g6) := by rw [hw3]; simp [*, go_sem]
  have B3 : w3.cell? ⟨w.heap.size + 1, 3, none⟩ = some (.slice a6 n6 c6) := by rw [hw3]; simp [*, go_sem]
  have R0 : w3.cell? ⟨w.heap.size + 1 + 1, 0, none⟩ = some (.bool false) := by rw [hw3]; simp [*, go_sem]
  have R1 : w3.cell? ⟨w.heap.size + 1 + 1, 1, none⟩ = some (.slice none 0 0) := by rw [hw3]; simp [*, go_sem]
  have R2 : w3.cell? ⟨w.heap.size + 1 + 1, 2, none⟩ = some (.bool false) := by rw [hw3]; simp [*, go_sem]
  have R3 : w3.cell? ⟨w.heap.size + 1 + 1, 3, none⟩ = some (.slice none 0 0) := by rw [hw3]; simp [*, go_sem]
  have Rf0 : w3.frozen? ⟨w.heap.size + 1 + 1, 0, none⟩ = false := by rw [hw3]; simp [*, go_sem]
  have Rf1 : w3.frozen? ⟨w.heap.size + 1 + 1, 1, none⟩ = false := by rw [hw3]; simp [*, go_sem]
  have Rf2 : w3.frozen? ⟨w.heap.size + 1 + 1, 2, none⟩ = false := by rw [hw3]; simp [*, go_sem]
  have Rf3 : w3.frozen? ⟨w.heap.size + 1 + 1, 3, none⟩ = false := by rw [hw3]; simp [*, go_sem]
  have hF3 : FracAt w3 g5 a5 n5 c5 p' g6 a6 n6 c6 q' := by
    rcases hold with ho | ⟨f5, f6⟩
    · exact ho.keep HB3
    · have l0 : w.heap.size < w1.heap.size := by omega
      have l1 : w.heap.size + 1 < w1.heap.size := by omega
      rw [hw3]
      exact ⟨(hF.top.set4 f5 _ _ _ _ _ _ _ _ l0 l0 l0 l0).set4 (f5.set4 _ _ _ _ _ _ _ _ l0 l0 l0 l0) _ _ _ _ _ _ _ _ l1 l1 l1 l1, (hF.low.set4 f6 _ _ _ _ _ _ _ _ l0 l0 l0 l0).set4 (f6.set4 _ _ _ _ _ _ _ _ l0 l0 l0 l0) _ _ _ _ _ _ _ _ l1 l1 l1 l1, hF.pos, hF.red⟩
  have e1 := h.top.rd.len
  have e3 := hF3.top.rd.len
  have i1 := dg_len_mulI p p'
  have HD : Hid ((dg (p * p').natAbs).length < 35184372088829) := Lib.hid (by omega)
  have hk3 : w.heap.size + 1 + 1 + 1 ≤ w3.heap.size := World.block_lt_of_cell? _ _ R0
  clear hw3 e1 e3 i1 HB hc hf hb hz hF hold hb2 hb12 hsz2 hk2 hk1 s0_0 s0_1 s0_2 s0_3 s1_0 s1_1 s1_2 s1_3 s2_0 s2_1 s2_2 s2_3 f0_0 f0_1 f0_2 f0_3 f1_0 f1_1 f1_2 f1_3 f2_0 f2_1 f2_2 f2_3
  go_wp2_with fail
  refine (make2_173 _ _ _ _ _ _ _ _ _ _ _ (h.keep HB3) _ _ _ _ _ _ _ _ _ _ hF3 hb1 hb2 (by omega) (by omega) _ _ (p * p') HD.out (fun W gx ax nx cx gy ay ny cy hW hx hy => fMul1_c W w.heap.size (w.heap.size + 1) gx ax nx cx gy ay ny cy _ _ _ _ p ((h.keep HB3).top.keep hW) _ _ _ _ p' (hF3.top.keep hW) (by omega) (by omega) (cell_keep hW A0) (cell_keep hW A1) (cell_keep hW B0) (cell_keep hW B1))).mono ?_
  rintro e w4 ⟨ge, ae, ne, ce, gf, af, nf, cf, rfl, hr, hfe, hff, hb⟩
  have HB4 := HB3.trans (hb.mono HB3.size)
  (replace Rf0 := (Below.frozen hb (World.block_lt_of_cell? _ _ R0)).trans Rf0; replace Rf1 := (Below.frozen hb (World.block_lt_of_cell? _ _ R1)).trans Rf1; replace Rf2 := (Below.frozen hb (World.block_lt_of_cell? _ _ R2)).trans Rf2; replace Rf3 := (Below.frozen hb (World.block_lt_of_cell? _ _ R3)).trans Rf3; replace R0 := cell_keep hb R0; replace R1 := cell_keep hb R1; replace R2 := cell_keep hb R2; replace R3 := cell_keep hb R3)
  have fe : Fresh (w.heap.size + 1 + 1 + 1) w4 ae ce := hfe.mono hk3
  have ff : Fresh (w.heap.size + 1 + 1 + 1) w4 af cf := hff.mono hk3
  have u2 : w.heap.size + 1 + 1 < w.heap.size + 1 + 1 + 1 := Nat.lt_succ_self _
  clear hb HB3 hfe hff
  go_wp2_with fail
  refine bodyPost_ret (v := .agg #[.bool ge, .slice ae ne ce, .bool gf, .slice af nf cf]) (by simp [results, Tryz.results106, go_sem, R0, R1, R2, R3]) rfl ?_
  refine ⟨ge, ae, ne, ce, gf, af, nf, cf, rfl, ⟨?_, ?_, hr.pos, hr.red⟩, ?_, ?_, by go_grown⟩
  · exact hr.top.set4 fe _ _ _ _ _ _ _ _ u2 u2 u2 u2
  · exact hr.low.set4 ff _ _ _ _ _ _ _ _ u2 u2 u2 u2
  · exact (fe.set4 _ _ _ _ _ _ _ _ u2 u2 u2 u2).mono (by omega)
  · exact (ff.set4 _ _ _ _ _ _ _ _ u2 u2 u2 u2).mono (by omega)
theorem fMul_c (w : World) (g1 : Bool) (a1 : Option Addr) (n1 c1 : Nat) (p : Int) (g2 : Bool) (a2 : Option Addr) (n2 c2 : Nat) (q : Int) (h : FracAt w g1 a1 n1 c1 p g2 a2 n2 c2 q)
    (g3 : Bool) (a3 : Option Addr) (n3 c3 : Nat) (p' : Int) (g4 : Bool) (a4 : Option Addr) (n4 c4 : Nat) (q' : Int) (h' : FracAt w g3 a3 n3 c3 p' g4 a4 n4 c4 q') (hb1 : n1 ≤ 1000000000) (hb2 : n2 ≤ 1000000000) (hb3 : n3 ≤ 1000000000) (hb4 : n4 ≤ 1000000000) :
    Calls Tryz.prog 106 #[.agg #[.bool g1, .slice a1 n1 c1, .bool g2, .slice a2 n2 c2], .agg #[.bool g3, .slice a3 n3 c3, .bool g4, .slice a4 n4 c4]] w (RetFrac w (lowP (p * p') (q * q')) (lowQ (p * p') (q * q'))) :=
  fMul_g w g1 a1 n1 c1 p g2 a2 n2 c2 q h g3 a3 n3 c3 p' g4 a4 n4 c4 q' 1000000000 (fun W hW => (fof_c W _ _ _ _ _ _ _ _ _ _ (h'.keep hW) (by omega) (by omega)).mono (fun e w' ⟨he, hb⟩ => ⟨_, _, _, _, _, _, _, _, he, (h'.keep hW).keep hb, hb3, hb4, .inl h', hb⟩)) hb1 hb2 (Nat.le_refl _)
end Go.Proofs.YtdamegaedmckbaaGreatDoor
end
section
namespace Go.Proofs.YtdamegaedmckbaaGreatDoor
open Go.RowKit

set_option maxRecDepth 100000 in
set_option maxHeartbeats 1000000 in
theorem fOf_c (w : World) (z : Int) (h0 : -9223372036854775808 ≤ z) (h1 : z ≤ 9223372036854775807) : Calls Tryz.prog 30 #[.int .i64 z] w (RetFrac w z 1) := by
  have HB := Below.refl w.heap.size w
  go_enter Tryz.func30, Tryz.ntmps30
  go_wp2_with fail
  refine (Of_c _ z h0 h1).mono ?_
  rintro e w1 ⟨g1, a1, n1, c1, rfl, hn1, hf1, hb⟩
  obtain ⟨hc, hf⟩ := bcell hb; have hz := hb.size; (try simp only [World.size_alloc, World.size_drew] at hz)
  replace HB : Below w.heap.size w w1 := Below.trans (by go_grown) (hb.mono (by go_size))
  have s0_0 : w1.cell? ⟨w.heap.size, 0, none⟩ = some (.bool false) := (hc _ _ (by go_size)).trans (by first | assumption | (simp [go_sem]; done) | (simp [*, go_sem]; done)); have s0_1 : w1.cell? ⟨w.heap.size, 1, none⟩ = some (.slice none 0 0) := (hc _ _ (by go_size)).trans (by first | assumption | (simp [go_sem]; done) | (simp [*, go_sem]; done)); have s0_2 : w1.cell? ⟨w.heap.size, 2, none⟩ = some (.bool false) := (hc _ _ (by go_size)).trans (by first | assumption | (simp [go_sem]; done) | (simp [*, go_sem]; done)); have s0_3 : w1.cell? ⟨w.heap.size, 3, none⟩ = some (.slice none 0 0) := (hc _ _ (by go_size)).trans (by first | assumption | (simp [go_sem]; done) | (simp [*, go_sem]; done)); have f0_0 : w1.frozen? ⟨w.heap.size, 0, none⟩ = false := (hf _ _ (by go_size)).trans (by first | assumption | (simp [go_sem]; done) | (simp [*, go_sem]; done)); have f0_1 : w1.frozen? ⟨w.heap.size, 1, none⟩ = false := (hf _ _ (by go_size)).trans (by first | assumption | (simp [go_sem]; done) | (simp [*, go_sem]; done)); have f0_2 : w1.frozen? ⟨w.heap.size, 2, none⟩ = false := (hf _ _ (by go_size)).trans (by first | assumption | (simp [go_sem]; done) | (simp [*, go_sem]; done)); have f0_3 : w1.frozen? ⟨w.heap.size, 3, none⟩ = false := (hf _ _ (by go_size)).trans (by first | assumption | (simp [go_sem]; done) | (simp [*, go_sem]; done))
  have hk1 : w.heap.size < w1.heap.size := by omega
  have f1 : Fresh (w.heap.size + 1) w1 a1 c1 := hf1.mono (by go_size)
  clear hc hf hb hz hf1
  go_wp2_with fail
  refine (Of_c _ 1 (by omega) (by omega)).mono ?_
  rintro e w2 ⟨g2, a2, n2, c2, rfl, hn2, hf2, hb⟩
  obtain ⟨hc, hf⟩ := bcell hb; have hz := hb.size; (try simp only [World.size_alloc, World.size_drew] at hz)
  replace HB : Below w.heap.size w w2 := Below.trans (by go_grown) (hb.mono (by go_size))
  have s0_0 : w2.cell? ⟨w.heap.size, 0, none⟩ = some (.bool false) := (hc _ _ (by go_size)).trans (by first | assumption | (simp [go_sem]; done) | (simp [*, go_sem]; done)); have s0_1 : w2.cell? ⟨w.heap.size, 1, none⟩ = some (.slice none 0 0) := (hc _ _ (by go_size)).trans (by first | assumption | (simp [go_sem]; done) | (simp [*, go_sem]; done)); have s0_2 : w2.cell? ⟨w.heap.size, 2, none⟩ = some (.bool false) := (hc _ _ (by go_size)).trans (by first | assumption | (simp [go_sem]; done) | (simp [*, go_sem]; done)); have s0_3 : w2.cell? ⟨w.heap.size, 3, none⟩ = some (.slice none 0 0) := (hc _ _ (by go_size)).trans (by first | assumption | (simp [go_sem]; done) | (simp [*, go_sem]; done)); have f0_0 : w2.frozen? ⟨w.heap.size, 0, none⟩ = false := (hf _ _ (by go_size)).trans (by first | assumption | (simp [go_sem]; done) | (simp [*, go_sem]; done)); have f0_1 : w2.frozen? ⟨w.heap.size, 1, none⟩ = false := (hf _ _ (by go_size)).trans (by first | assumption | (simp [go_sem]; done) | (simp [*, go_sem]; done)); have f0_2 : w2.frozen? ⟨w.heap.size, 2, none⟩ = false := (hf _ _ (by go_size)).trans (by first | assumption | (simp [go_sem]; done) | (simp [*, go_sem]; done)); have f0_3 : w2.frozen? ⟨w.heap.size, 3, none⟩ = false := (hf _ _ (by go_size)).trans (by first | assumption | (simp [go_sem]; done) | (simp [*, go_sem]; done))
  have f1' := f1.keep hb
  have hn1' := hn1.keep hb
  have f2 : Fresh (w.heap.size + 1) w2 a2 c2 := hf2.mono (by omega)
  have hk2 : w.heap.size < w2.heap.size := by omega
  have u : w.heap.size < w.heap.size + 1 := Nat.lt_succ_self _
  clear hc hf hb hz hf2
  go_wp2_with fail
  refine bodyPost_ret (v := .agg #[.bool g1, .slice a1 n1 c1, .bool g2, .slice a2 n2 c2]) (by simp [results, Tryz.results30, go_sem, s0_0, s0_1, s0_2, s0_3]) rfl ?_
  refine ⟨g1, a1, n1, c1, g2, a2, n2, c2, rfl, ⟨?_, ?_, by omega, by simp [Int.gcd]⟩, ?_, ?_, by go_grown⟩
  · exact hn1'.set4 f1' _ _ _ _ _ _ _ _ u u u u
  · exact hn2.set4 f2 _ _ _ _ _ _ _ _ u u u u
  · exact (f1'.set4 _ _ _ _ _ _ _ _ u u u u).mono (by omega)
  · exact (f2.set4 _ _ _ _ _ _ _ _ u u u u).mono (by omega)
theorem few_one {w : World} {g : Bool} {a : Option Addr} {n c : Nat} {z : Int} (h : NumAt w g a n c z) (hz : z.natAbs < 1000000000) : n ≤ 1 := by
  have h1 := h.rd.len
  rcases Nat.eq_zero_or_pos z.natAbs with h2 | h2
  · rw [h2, dg_zero] at h1; simp at h1; omega
  · rw [dg_pos h2, show z.natAbs / 1000000000 = 0 by omega, dg_zero] at h1; simp at h1; omega
theorem rdl_nil (w : World) : RdL w none 0 0 [] := ⟨rfl, Nat.le_refl _, by omega, by omega, fun i => by simp [lim], .inl rfl⟩
set_option maxRecDepth 100000 in
set_option maxHeartbeats 1000000 in
/-- of, at what is no fraction: 0. -/
theorem fof_no (w0 w : World) (g1 : Bool) (a1 : Option Addr) (n1 c1 : Nat) (d1 : List Nat) (h1 : RdL w a1 n1 c1 d1) (g2 : Bool) (a2 : Option Addr) (n2 c2 : Nat) (d2 : List Nat) (h2 : RdL w a2 n2 c2 d2) (hs : n2 < 35184372088829) (hb1 : n1 < 35184372088829) (hr : ¬ FOk g1 d1 g2 d2) :
    Calls Tryz.prog 108 #[.agg #[.bool g1, .slice a1 n1 c1, .bool g2, .slice a2 n2 c2]] w (RetOf w0 w 0 1 1) := by
  have HB := Below.refl w.heap.size w
  have HR := Lib.hid hr
  clear hr
  go_enter Tryz.func108, Tryz.ntmps108
  go_wp2_with fail
  refine (fCheck_c _ _ _ _ _ _ (h1.keep (by go_grown)) _ _ _ _ _ (h2.keep (by go_grown)) hs hb1 false ⟨fun h => absurd h HR.out, fun e => (by cases e)⟩).mono ?_
  rintro e w1 ⟨rfl, hb⟩
  obtain ⟨hc, hf⟩ := bcell hb; have hz := hb.size; (try simp only [World.size_alloc, World.size_drew] at hz)
  replace HB : Below w.heap.size w w1 := Below.trans (by go_grown) (hb.mono (by go_size))
  have s0_0 : w1.cell? ⟨w.heap.size, 0, none⟩ = some (.bool g1) := (hc _ _ (by go_size)).trans (by first | assumption | (simp [go_sem]; done) | (simp [*, go_sem]; done)); have s0_1 : w1.cell? ⟨w.heap.size, 1, none⟩ = some (.slice a1 n1 c1) := (hc _ _ (by go_size)).trans (by first | assumption | (simp [go_sem]; done) | (simp [*, go_sem]; done)); have s0_2 : w1.cell? ⟨w.heap.size, 2, none⟩ = some (.bool g2) := (hc _ _ (by go_size)).trans (by first | assumption | (simp [go_sem]; done) | (simp [*, go_sem]; done)); have s0_3 : w1.cell? ⟨w.heap.size, 3, none⟩ = some (.slice a2 n2 c2) := (hc _ _ (by go_size)).trans (by first | assumption | (simp [go_sem]; done) | (simp [*, go_sem]; done)); have s1_0 : w1.cell? ⟨w.heap.size + 1, 0, none⟩ = some (.bool false) := (hc _ _ (by go_size)).trans (by first | assumption | (simp [go_sem]; done) | (simp [*, go_sem]; done)); have s1_1 : w1.cell? ⟨w.heap.size + 1, 1, none⟩ = some (.slice none 0 0) := (hc _ _ (by go_size)).trans (by first | assumption | (simp [go_sem]; done) | (simp [*, go_sem]; done)); have s1_2 : w1.cell? ⟨w.heap.size + 1, 2, none⟩ = some (.bool false) := (hc _ _ (by go_size)).trans (by first | assumption | (simp [go_sem]; done) | (simp [*, go_sem]; done)); have s1_3 : w1.cell? ⟨w.heap.size + 1, 3, none⟩ = some (.slice none 0 0) := (hc _ _ (by go_size)).trans (by first | assumption | (simp [go_sem]; done) | (simp [*, go_sem]; done)); have f1_0 : w1.frozen? ⟨w.heap.size + 1, 0, none⟩ = false := (hf _ _ (by go_size)).trans (by first | assumption | (simp [go_sem]; done) | (simp [*, go_sem]; done)); have f1_1 : w1.frozen? ⟨w.heap.size + 1, 1, none⟩ = false := (hf _ _ (by go_size)).trans (by first | assumption | (simp [go_sem]; done) | (simp [*, go_sem]; done)); have f1_2 : w1.frozen? ⟨w.heap.size + 1, 2, none⟩ = false := (hf _ _ (by go_size)).trans (by first | assumption | (simp [go_sem]; done) | (simp [*, go_sem]; done)); have f1_3 : w1.frozen? ⟨w.heap.size + 1, 3, none⟩ = false := (hf _ _ (by go_size)).trans (by first | assumption | (simp [go_sem]; done) | (simp [*, go_sem]; done))
  have hk1 : w.heap.size + 1 < w1.heap.size := by omega
  clear hc hf hb hz
  go_wp2_with fail
  refine (fOf_c _ 0 (by omega) (by omega)).mono ?_
  rintro e w2 ⟨g3, a3, n3, c3, g4, a4, n4, c4, rfl, hF, hf3, hf4, hb⟩
  obtain ⟨hc, hf⟩ := bcell hb; have hz := hb.size; (try simp only [World.size_alloc, World.size_drew] at hz)
  replace HB : Below w.heap.size w w2 := Below.trans (by go_grown) (hb.mono (by go_size))
  have s1_0 : w2.cell? ⟨w.heap.size + 1, 0, none⟩ = some (.bool false) := (hc _ _ (by go_size)).trans (by first | assumption | (simp [go_sem]; done) | (simp [*, go_sem]; done)); have s1_1 : w2.cell? ⟨w.heap.size + 1, 1, none⟩ = some (.slice none 0 0) := (hc _ _ (by go_size)).trans (by first | assumption | (simp [go_sem]; done) | (simp [*, go_sem]; done)); have s1_2 : w2.cell? ⟨w.heap.size + 1, 2, none⟩ = some (.bool false) := (hc _ _ (by go_size)).trans (by first | assumption | (simp [go_sem]; done) | (simp [*, go_sem]; done)); have s1_3 : w2.cell? ⟨w.heap.size + 1, 3, none⟩ = some (.slice none 0 0) := (hc _ _ (by go_size)).trans (by first | assumption | (simp [go_sem]; done) | (simp [*, go_sem]; done)); have f1_0 : w2.frozen? ⟨w.heap.size + 1, 0, none⟩ = false := (hf _ _ (by go_size)).trans (by first | assumption | (simp [go_sem]; done) | (simp [*, go_sem]; done)); have f1_1 : w2.frozen? ⟨w.heap.size + 1, 1, none⟩ = false := (hf _ _ (by go_size)).trans (by first | assumption | (simp [go_sem]; done) | (simp [*, go_sem]; done)); have f1_2 : w2.frozen? ⟨w.heap.size + 1, 2, none⟩ = false := (hf _ _ (by go_size)).trans (by first | assumption | (simp [go_sem]; done) | (simp [*, go_sem]; done)); have f1_3 : w2.frozen? ⟨w.heap.size + 1, 3, none⟩ = false := (hf _ _ (by go_size)).trans (by first | assumption | (simp [go_sem]; done) | (simp [*, go_sem]; done))
  have f3 : Fresh (w.heap.size + 1 + 1) w2 a3 c3 := hf3.mono (by omega)
  have f4 : Fresh (w.heap.size + 1 + 1) w2 a4 c4 := hf4.mono (by omega)
  have hk2 : w.heap.size + 1 < w2.heap.size := by omega
  have u : w.heap.size + 1 < w.heap.size + 1 + 1 := Nat.lt_succ_self _
  clear hc hf hb hz hf3 hf4
  go_wp2_with fail
  refine bodyPost_ret (v := .agg #[.bool g3, .slice a3 n3 c3, .bool g4, .slice a4 n4 c4]) (by simp [results, Tryz.results108, go_sem, s1_0, s1_1, s1_2, s1_3]) rfl ?_
  refine ⟨g3, a3, n3, c3, g4, a4, n4, c4, rfl, ⟨?_, ?_, hF.pos, hF.red⟩, few_one hF.top (by simp), few_one hF.low (by simp), .inr ⟨?_, ?_⟩, by go_grown⟩
  · exact hF.top.set4 f3 _ _ _ _ _ _ _ _ u u u u
  · exact hF.low.set4 f4 _ _ _ _ _ _ _ _ u u u u
  · exact (f3.set4 _ _ _ _ _ _ _ _ u u u u).mono (by omega)
  · exact (f4.set4 _ _ _ _ _ _ _ _ u u u u).mono (by omega)
end Go.Proofs.YtdamegaedmckbaaGreatDoor
end
