/- Package monos: Mul. Condition: no count is too great. Plain: two terms' texts, one behind the other, are read as their product. No condition. Package polys: Mul of two terms. Condition: no count is too great. polys.Check of numbers of any size. No further condition. SpellsTimes: the law's own walk. Conditions: the variables that strconv asks. A term that came in, read as data, is one in memory; its numbers are within the reach. -/
import Derived.Test.YtdamegaedmckbaaGreatDoorX0
import Derived.Test.YtdamegaedmckbaaGreatDoorX1
import Derived.Test.YtdamegaedmckbaaGreatDoorX2
import Derived.Test.YtdamegaedmckbaaGreatDoorX3
import Derived.Test.YtdamegaedmckbaaGreatDoorX4
import Derived.Test.YtdamegaedmckbaaGreatDoorX5
import Derived.Test.YtdamegaedmckbaaGreatDoorX6
import Derived.Test.YtdamegaedmckbaaGreatDoorX7
import Derived.Test.YtdamegaedmckbaaGreatDoorX8
import Derived.Test.YtdamegaedmckbaaGreatDoorX9
import Derived.Test.YtdamegaedmckbaaGreatDoorX10
import Derived.Test.YtdamegaedmckbaaGreatDoorX11
import Derived.Test.YtdamegaedmckbaaGreatDoorX12
import Derived.Test.YtdamegaedmckbaaGreatDoorX13
import Derived.Test.YtdamegaedmckbaaGreatDoorX14
import Derived.Test.YtdamegaedmckbaaGreatDoorX15
import Derived.Test.YtdamegaedmckbaaGreatDoorX16
import Derived.Test.YtdamegaedmckbaaGreatDoorX17
import Derived.Test.YtdamegaedmckbaaGreatDoorX18
import Derived.Test.YtdamegaedmckbaaGreatDoorX19
import Derived.Test.YtdamegaedmckbaaGreatDoorX20
import Derived.Test.YtdamegaedmckbaaGreatDoorX21
import Derived.Test.YtdamegaedmckbaaGreatDoorX22
import Derived.Test.YtdamegaedmckbaaGreatDoorX23
import Derived.Test.YtdamegaedmckbaaGreatDoorX24
import Derived.Test.YtdamegaedmckbaaGreatDoorX25
import Derived.Test.YtdamegaedmckbaaGreatDoorX26
import Derived.Test.YtdamegaedmckbaaGreatDoorX27
import Derived.Test.YtdamegaedmckbaaGreatDoorX28
import Derived.Test.YtdamegaedmckbaaGreatDoorX29
import Derived.Test.YtdamegaedmckbaaGreatDoorX30
import Derived.Test.YtdamegaedmckbaaGreatDoorX31
import Derived.Test.YtdamegaedmckbaaGreatDoorX32
import Derived.Test.YtdamegaedmckbaaGreatDoorX33
import Derived.Test.YtdamegaedmckbaaGreatDoorX34
import Derived.Test.YtdamegaedmckbaaGreatDoorX35
import Derived.Test.YtdamegaedmckbaaGreatDoorX36
import Derived.Test.YtdamegaedmckbaaGreatDoorX37
import Derived.Test.YtdamegaedmckbaaGreatDoorX38
import Derived.Test.YtdamegaedmckbaaGreatDoorX39
import Derived.Test.YtdamegaedmckbaaGreatDoorX40
import Derived.Test.YtdamegaedmckbaaGreatDoorX42
set_option linter.unusedSimpArgs false
set_option linter.unusedVariables false
section
namespace Go.Proofs.YtdamegaedmckbaaGreatDoor
open Go.RowKit

theorem plus_c (w : World) (x y s : Nat) (hs : s = x + y) (hx : x < 65536) (hy : y < 65536) : Calls Tryz.prog 181 #[.int .i64 x, .int .i64 y] w (fun e w' => e = .returned (.int .i64 s) ∧ w = w') := by
  have HS := Lib.hid hs
  clear hs
  go_enter Tryz.func181, Tryz.ntmps181
  go_wp2_with fail
  go_ret
  exact ⟨by rw [HS.out]; simp, rfl⟩
def outV (k j s : Nat) : Nat := if j < k then s else 0
set_option maxRecDepth 100000 in
set_option maxHeartbeats 4000000 in
theorem each_c (w : World) (a0 a1 a2 a3 b0 b1 b2 b3 s0 s1 s2 s3 : Nat) (z0 : s0 = a0 + b0) (z1 : s1 = a1 + b1) (z2 : s2 = a2 + b2) (z3 : s3 = a3 + b3) (h0 : s0 < 65536) (h1 : s1 < 65536) (h2 : s2 < 65536) (h3 : s3 < 65536) :
    Calls Tryz.prog 180 #[mono4 a0 a1 a2 a3, mono4 b0 b1 b2 b3, .func (.func 181) #[] #[]] w (fun e w' => e = .returned (.tuple #[mono4 s0 s1 s2 s3, .bool true]) ∧ Below w.heap.size w w') := by
  have Z0 := Lib.hid z0
  have Z1 := Lib.hid z1
  have Z2 := Lib.hid z2
  have Z3 := Lib.hid z3
  have wa0 : IntKind.i64.wrap (a0 : Int) = a0 := IntWalk.i64_in _ (by omega)
  have wb0 : IntKind.i64.wrap (b0 : Int) = b0 := IntWalk.i64_in _ (by omega)
  have wa1 : IntKind.i64.wrap (a1 : Int) = a1 := IntWalk.i64_in _ (by omega)
  have wb1 : IntKind.i64.wrap (b1 : Int) = b1 := IntWalk.i64_in _ (by omega)
  have wa2 : IntKind.i64.wrap (a2 : Int) = a2 := IntWalk.i64_in _ (by omega)
  have wb2 : IntKind.i64.wrap (b2 : Int) = b2 := IntWalk.i64_in _ (by omega)
  have wa3 : IntKind.i64.wrap (a3 : Int) = a3 := IntWalk.i64_in _ (by omega)
  have wb3 : IntKind.i64.wrap (b3 : Int) = b3 := IntWalk.i64_in _ (by omega)
  clear z0 z1 z2 z3
  go_enter Tryz.func180, Tryz.ntmps180
  go_wp2_with fail
  go_loopw [10] (fun v wr => ∃ k : Nat, k ≤ 4 ∧ v = .int .i64 k ∧ wr.cell? ⟨w.heap.size, 0, none⟩ = some (.int .u16 (a0 : Nat)) ∧ wr.cell? ⟨w.heap.size, 1, none⟩ = some (.int .u16 (a1 : Nat)) ∧ wr.cell? ⟨w.heap.size, 2, none⟩ = some (.int .u16 (a2 : Nat)) ∧ wr.cell? ⟨w.heap.size, 3, none⟩ = some (.int .u16 (a3 : Nat)) ∧ wr.cell? ⟨w.heap.size + 1, 0, none⟩ = some (.int .u16 (b0 : Nat)) ∧ wr.cell? ⟨w.heap.size + 1, 1, none⟩ = some (.int .u16 (b1 : Nat)) ∧ wr.cell? ⟨w.heap.size + 1, 2, none⟩ = some (.int .u16 (b2 : Nat)) ∧ wr.cell? ⟨w.heap.size + 1, 3, none⟩ = some (.int .u16 (b3 : Nat)) ∧ wr.cell? ⟨w.heap.size + 1 + 1, 0, none⟩ = some (.int .u16 (outV k 0 s0 : Nat)) ∧ wr.cell? ⟨w.heap.size + 1 + 1, 1, none⟩ = some (.int .u16 (outV k 1 s1 : Nat)) ∧ wr.cell? ⟨w.heap.size + 1 + 1, 2, none⟩ = some (.int .u16 (outV k 2 s2 : Nat)) ∧ wr.cell? ⟨w.heap.size + 1 + 1, 3, none⟩ = some (.int .u16 (outV k 3 s3 : Nat)) ∧ wr.frozen? ⟨w.heap.size + 1 + 1, 0, none⟩ = false ∧ wr.frozen? ⟨w.heap.size + 1 + 1, 1, none⟩ = false ∧ wr.frozen? ⟨w.heap.size + 1 + 1, 2, none⟩ = false ∧ wr.frozen? ⟨w.heap.size + 1 + 1, 3, none⟩ = false ∧ w.heap.size + 1 + 1 < wr.heap.size ∧ Below w.heap.size w wr) (fun v _ => 4 - (intOf v).toNat)
  case atStart => exact ⟨0, by omega, rfl, by simp [go_sem], by simp [go_sem], by simp [go_sem], by simp [go_sem], by simp [go_sem], by simp [go_sem], by simp [go_sem], by simp [go_sem], by simp [go_sem, outV], by simp [go_sem, outV], by simp [go_sem, outV], by simp [go_sem, outV], by simp [go_sem], by simp [go_sem], by simp [go_sem], by simp [go_sem], by simp, by go_grown⟩
  case round =>
    obtain ⟨k, hk, rfl, A0, A1, A2, A3, B0, B1, B2, B3, O0, O1, O2, O3, F0, F1, F2, F3, hsz, HBr⟩ := hrel
    rcases (by omega : k = 0 ∨ k = 1 ∨ k = 2 ∨ k = 3 ∨ k = 4) with rfl | rfl | rfl | rfl | rfl
    · 
      change wr.cell? ⟨w.heap.size + 1 + 1, 0, none⟩ = some (.int .u16 ((0 : Nat) : Int)) at O0
      change wr.cell? ⟨w.heap.size + 1 + 1, 1, none⟩ = some (.int .u16 ((0 : Nat) : Int)) at O1
      change wr.cell? ⟨w.heap.size + 1 + 1, 2, none⟩ = some (.int .u16 ((0 : Nat) : Int)) at O2
      change wr.cell? ⟨w.heap.size + 1 + 1, 3, none⟩ = some (.int .u16 ((0 : Nat) : Int)) at O3
      go_wp2_with fail
      go_quiet (((first | (go_at_call 181; exact quietL (plus_c _ a0 b0 s0 Z0.out (by have := Z0.out; omega) (by have := Z0.out; omega))) | (go_at_call 181; exact quietAL (plus_c _ a0 b0 s0 Z0.out (by have := Z0.out; omega) (by have := Z0.out; omega))))))
      have HD := below_drewN nq HBr
      go_wp2_with fail
      go_roundw
      case rel =>
        refine ⟨1, by omega, by first | rfl | go_num, ?_, ?_, ?_, ?_, ?_, ?_, ?_, ?_, ?_, ?_, ?_, ?_, ?_, ?_, ?_, ?_, by simpa using hsz, by go_grown⟩
        all_goals first | assumption | (simp [*, go_sem, outV]; done)
      case measure => simp [intOf]
    · 
      change wr.cell? ⟨w.heap.size + 1 + 1, 0, none⟩ = some (.int .u16 ((s0 : Nat) : Int)) at O0
      change wr.cell? ⟨w.heap.size + 1 + 1, 1, none⟩ = some (.int .u16 ((0 : Nat) : Int)) at O1
      change wr.cell? ⟨w.heap.size + 1 + 1, 2, none⟩ = some (.int .u16 ((0 : Nat) : Int)) at O2
      change wr.cell? ⟨w.heap.size + 1 + 1, 3, none⟩ = some (.int .u16 ((0 : Nat) : Int)) at O3
      go_wp2_with fail
      go_quiet (((first | (go_at_call 181; exact quietL (plus_c _ a1 b1 s1 Z1.out (by have := Z1.out; omega) (by have := Z1.out; omega))) | (go_at_call 181; exact quietAL (plus_c _ a1 b1 s1 Z1.out (by have := Z1.out; omega) (by have := Z1.out; omega))))))
      have HD := below_drewN nq HBr
      go_wp2_with fail
      go_roundw
      case rel =>
        refine ⟨2, by omega, by first | rfl | go_num, ?_, ?_, ?_, ?_, ?_, ?_, ?_, ?_, ?_, ?_, ?_, ?_, ?_, ?_, ?_, ?_, by simpa using hsz, by go_grown⟩
        all_goals first | assumption | (simp [*, go_sem, outV]; done)
      case measure => simp [intOf]
    · 
      change wr.cell? ⟨w.heap.size + 1 + 1, 0, none⟩ = some (.int .u16 ((s0 : Nat) : Int)) at O0
      change wr.cell? ⟨w.heap.size + 1 + 1, 1, none⟩ = some (.int .u16 ((s1 : Nat) : Int)) at O1
      change wr.cell? ⟨w.heap.size + 1 + 1, 2, none⟩ = some (.int .u16 ((0 : Nat) : Int)) at O2
      change wr.cell? ⟨w.heap.size + 1 + 1, 3, none⟩ = some (.int .u16 ((0 : Nat) : Int)) at O3
      go_wp2_with fail
      go_quiet (((first | (go_at_call 181; exact quietL (plus_c _ a2 b2 s2 Z2.out (by have := Z2.out; omega) (by have := Z2.out; omega))) | (go_at_call 181; exact quietAL (plus_c _ a2 b2 s2 Z2.out (by have := Z2.out; omega) (by have := Z2.out; omega))))))
      have HD := below_drewN nq HBr
      go_wp2_with fail
      go_roundw
      case rel =>
        refine ⟨3, by omega, by first | rfl | go_num, ?_, ?_, ?_, ?_, ?_, ?_, ?_, ?_, ?_, ?_, ?_, ?_, ?_, ?_, ?_, ?_, by simpa using hsz, by go_grown⟩
        all_goals first | assumption | (simp [*, go_sem, outV]; done)
      case measure => simp [intOf]
    · 
      change wr.cell? ⟨w.heap.size + 1 + 1, 0, none⟩ = some (.int .u16 ((s0 : Nat) : Int)) at O0
      change wr.cell? ⟨w.heap.size + 1 + 1, 1, none⟩ = some (.int .u16 ((s1 : Nat) : Int)) at O1
      change wr.cell? ⟨w.heap.size + 1 + 1, 2, none⟩ = some (.int .u16 ((s2 : Nat) : Int)) at O2
      change wr.cell? ⟨w.heap.size + 1 + 1, 3, none⟩ = some (.int .u16 ((0 : Nat) : Int)) at O3
      go_wp2_with fail
      go_quiet (((first | (go_at_call 181; exact quietL (plus_c _ a3 b3 s3 Z3.out (by have := Z3.out; omega) (by have := Z3.out; omega))) | (go_at_call 181; exact quietAL (plus_c _ a3 b3 s3 Z3.out (by have := Z3.out; omega) (by have := Z3.out; omega))))))
      have HD := below_drewN nq HBr
      go_wp2_with fail
      go_roundw
      case rel =>
        refine ⟨4, by omega, by first | rfl | go_num, ?_, ?_, ?_, ?_, ?_, ?_, ?_, ?_, ?_, ?_, ?_, ?_, ?_, ?_, ?_, ?_, by simpa using hsz, by go_grown⟩
        all_goals first | assumption | (simp [*, go_sem, outV]; done)
      case measure => simp [intOf]
    · 
      change wr.cell? ⟨w.heap.size + 1 + 1, 0, none⟩ = some (.int .u16 ((s0 : Nat) : Int)) at O0
      change wr.cell? ⟨w.heap.size + 1 + 1, 1, none⟩ = some (.int .u16 ((s1 : Nat) : Int)) at O1
      change wr.cell? ⟨w.heap.size + 1 + 1, 2, none⟩ = some (.int .u16 ((s2 : Nat) : Int)) at O2
      change wr.cell? ⟨w.heap.size + 1 + 1, 3, none⟩ = some (.int .u16 ((s3 : Nat) : Int)) at O3
      go_wp2_with fail
      refine bodyPost_ret (v := .tuple #[mono4 s0 s1 s2 s3, .bool true]) (by simp [*, results, Tryz.results180, go_sem]) rfl ⟨rfl, by go_grown⟩
set_option maxRecDepth 100000 in
set_option maxHeartbeats 4000000 in
theorem monoMul_c (w : World) (a0 a1 a2 a3 b0 b1 b2 b3 s0 s1 s2 s3 : Nat) (z0 : s0 = a0 + b0) (z1 : s1 = a1 + b1) (z2 : s2 = a2 + b2) (z3 : s3 = a3 + b3) (h0 : s0 < 65536) (h1 : s1 < 65536) (h2 : s2 < 65536) (h3 : s3 < 65536) :
    Calls Tryz.prog 112 #[mono4 a0 a1 a2 a3, mono4 b0 b1 b2 b3] w (fun e w' => e = .returned (.tuple #[mono4 s0 s1 s2 s3, .int .i64 0]) ∧ Below w.heap.size w w') := by
  have hE := fun W => each_c W a0 a1 a2 a3 b0 b1 b2 b3 s0 s1 s2 s3 z0 z1 z2 z3 h0 h1 h2 h3
  have HE := Lib.hid hE
  clear hE z0 z1 z2 z3
  go_enter Tryz.func112, Tryz.ntmps112
  go_wp2_with fail
  refine (HE.out _).mono ?_
  rintro e w1 ⟨rfl, hb1⟩
  obtain ⟨hc, hf⟩ := bcell hb1
  have hz := hb1.size
  (try simp only [World.size_alloc, World.size_drew] at hz)
  have s0_ : w1.cell? ⟨w.heap.size + 1 + 1, 0, none⟩ = some (.int .u16 0) := (hc _ _ (by go_size)).trans (by simp [go_sem])
  have f0_ : w1.frozen? ⟨w.heap.size + 1 + 1, 0, none⟩ = false := (hf _ _ (by go_size)).trans (by simp [go_sem])
  have s1_ : w1.cell? ⟨w.heap.size + 1 + 1, 1, none⟩ = some (.int .u16 0) := (hc _ _ (by go_size)).trans (by simp [go_sem])
  have f1_ : w1.frozen? ⟨w.heap.size + 1 + 1, 1, none⟩ = false := (hf _ _ (by go_size)).trans (by simp [go_sem])
  have s2_ : w1.cell? ⟨w.heap.size + 1 + 1, 2, none⟩ = some (.int .u16 0) := (hc _ _ (by go_size)).trans (by simp [go_sem])
  have f2_ : w1.frozen? ⟨w.heap.size + 1 + 1, 2, none⟩ = false := (hf _ _ (by go_size)).trans (by simp [go_sem])
  have s3_ : w1.cell? ⟨w.heap.size + 1 + 1, 3, none⟩ = some (.int .u16 0) := (hc _ _ (by go_size)).trans (by simp [go_sem])
  have f3_ : w1.frozen? ⟨w.heap.size + 1 + 1, 3, none⟩ = false := (hf _ _ (by go_size)).trans (by simp [go_sem])
  have B1 : Below w.heap.size w w1 := Below.trans (by go_grown) (hb1.mono (by go_size))
  have hk : w.heap.size + 1 + 1 < w1.heap.size := by omega
  clear hc hf hb1
  go_wp2_with fail
  refine bodyPost_ret (v := .tuple #[mono4 s0 s1 s2 s3, .int .i64 0]) (by simp [*, results, Tryz.results112, go_sem]) rfl ⟨rfl, by go_grown⟩
end Go.Proofs.YtdamegaedmckbaaGreatDoor
end
section
namespace Go.Proofs.YtdamegaedmckbaaGreatDoor
open Go.RowKit

theorem facs_mul {x : PT} (hx : FineT x) (hp : 0 < x.2.1) {c : PC} (hc : CW c) : effsC (facs x) c = mulC c x.2 := by
  have hq := hx.c.pos
  have e : ((x.2.1.natAbs : Int), (x.2.2.natAbs : Int)) = x.2 := by
    obtain ⟨k, p, q⟩ := x
    simp only at hp hq ⊢
    congr 1 <;> omega
  unfold facs
  split
  · have : effsC (.nu x.2.1.natAbs x.2.2.natAbs :: letF (expo x.1) 4) c = effsC (letF (expo x.1) 4) (mulC c ((x.2.1.natAbs : Int), (x.2.2.natAbs : Int))) := rfl
    rw [this, letF_effC, e]
  · next h =>
    simp only [not_or, ne_eq, Decidable.not_not] at h
    obtain ⟨e1, e2⟩ := ftext_one h.1
    rw [letF_effC]
    have : x.2 = (1, 1) := by
      rw [← e, e1, e2]; rfl
    rw [this, mulC_one hc]
/-- The product's key. -/
def keyM (a b : Nat) : Nat := key4 (expo a 0 + expo b 0) (expo a 1 + expo b 1) (expo a 2 + expo b 2) (expo a 3 + expo b 3)
theorem mulC_nz {c d : PC} (hc : CW c) (hd : CW d) (h1 : c.1 ≠ 0) (h2 : d.1 ≠ 0) : (mulC c d).1 ≠ 0 := by
  unfold mulC lowP
  simp only
  intro e
  have hdv : (Int.gcd (c.1 * d.1) (c.2 * d.2) : Int) ∣ c.1 * d.1 := Int.gcd_dvd_left ..
  have := Int.eq_zero_of_ediv_eq_zero hdv e
  rcases Int.mul_eq_zero.1 this with h | h
  · exact h1 h
  · exact h2 h
theorem txt_one (a : PT) : sumW [32] [32] [a] = (if sgB a then [45] else []) ++ bodyW [32] a := by
  rw [sumW]; simp [tailW, tailG]
/-- One behind the other. -/
theorem prod_read {a b : PT} (ha : FineT a) (hb : FineT b) (hp : 0 < b.2.1) {s : List UInt8} (hs : Sep s) :
    rdSum (sumW [32] [32] [a] ++ (s ++ sumW [32] [32] [b])) = some ([(keyM a.1 b.1, mulC a.2 b.2)], false) := by
  have hsb : sgB b = false := by unfold sgB; rw [decide_eq_false_iff_not]; omega
  obtain ⟨la, fa, ea⟩ : ∃ l f, facs a = l ++ [f] := ⟨_, _, (List.dropLast_concat_getLast (facs_ne a)).symm⟩
  obtain ⟨lb, fb, eb⟩ : ∃ l f, facs b = l ++ [f] := ⟨_, _, (List.dropLast_concat_getLast (facs_ne b)).symm⟩
  have oka := facs_ok ha
  have okb := facs_ok hb
  have hS : Sep [32] := .inl ⟨rfl, by simp⟩
  have h := rdTerm_facs ((la.map fun g => (g, [32])) ++ ((fa, s) :: (lb.map fun g => (g, [32])))) fb [] [] [] (fun y hy => by
    rcases List.mem_append.1 hy with hy | hy
    · obtain ⟨g, hg, rfl⟩ := List.mem_map.1 hy
      exact ⟨oka g (by rw [ea]; simp [hg]), hS⟩
    · rcases List.mem_cons.1 hy with rfl | hy
      · exact ⟨oka fa (by rw [ea]; simp), hs⟩
      · obtain ⟨g, hg, rfl⟩ := List.mem_map.1 hy
        exact ⟨okb g (by rw [eb]; simp [hg]), hS⟩) (okb fb (by rw [eb]; simp)) rfl rfl EndR.nil false (sgB a)
  have e1 : ((la.map fun g => (g, [(32 : UInt8)])) ++ ((fa, s) :: (lb.map fun g => (g, [(32 : UInt8)])))).map (·.1) ++ [fb] = facs a ++ facs b := by
    have hid : ((fun x : Fa × List UInt8 => x.1) ∘ fun g => (g, [(32 : UInt8)])) = id := rfl
    rw [ea, eb, List.map_append, List.map_cons, List.map_map, List.map_map, hid, List.map_id, List.map_id]; simp
  have e2 : sepT ((la.map fun g => (g, [(32 : UInt8)])) ++ ((fa, s) :: (lb.map fun g => (g, [(32 : UInt8)])))) ++ (fb.text ++ ([] ++ [])) = bodyW [32] a ++ (s ++ bodyW [32] b) := by
    unfold bodyW
    rw [ea, eb, join_snoc, join_snoc]
    simp [sepT, List.append_assoc]
  rw [List.nil_append, e1, e2, Bool.false_or] at h
  have e3 : effsC (facs a ++ facs b) (if sgB a then -1 else 1, 1) = mulC a.2 b.2 := by
    have : effsC (facs a ++ facs b) (if sgB a then -1 else 1, 1) = effsC (facs b) (effsC (facs a) (if sgB a then -1 else 1, 1)) := by
      unfold effsC; rw [List.foldl_append]
    rw [this, facs_effC ha, sg_self, facs_mul hb hp ha.c]
  have e4 : ∀ j, j < 4 → effsO (facs a ++ facs b) (fun _ => 0) j = expo a.1 j + expo b.1 j := by
    intro j hj
    have : effsO (facs a ++ facs b) (fun _ => 0) = effsO (facs b) (effsO (facs a) fun _ => 0) := by
      unfold effsO; rw [List.foldl_append]
    rw [this, facs_from, facs_effO, if_pos hj, if_pos hj]
  have hle : ∀ j, j < 4 → expo a.1 j + expo b.1 j ≤ 2000 := fun j hj => by have := ha.pow j hj; have := hb.pow j hj; omega
  have e5 : keyO (effsO (facs a ++ facs b) fun _ => 0) = keyM a.1 b.1 := by
    have q0 := hle 0 (by omega)
    have q1 := hle 1 (by omega)
    have q2 := hle 2 (by omega)
    have q3 := hle 3 (by omega)
    unfold keyO clamp keyM
    rw [e4 0 (by omega), e4 1 (by omega), e4 2 (by omega), e4 3 (by omega), Nat.min_eq_left (by omega), Nat.min_eq_left (by omega), Nat.min_eq_left (by omega), Nat.min_eq_left (by omega)]
  have e6 : over (effsO (facs a ++ facs b) fun _ => 0) = false := by
    have q0 := hle 0 (by omega)
    have q1 := hle 1 (by omega)
    have q2 := hle 2 (by omega)
    have q3 := hle 3 (by omega)
    unfold over
    rw [e4 0 (by omega), e4 1 (by omega), e4 2 (by omega), e4 3 (by omega)]
    simp only [Bool.or_eq_false_iff, decide_eq_false_iff_not]
    omega
  have e7 : oneT (keyM a.1 b.1) (mulC a.2 b.2) = [(keyM a.1 b.1, mulC a.2 b.2)] := by
    unfold oneT
    rw [if_neg (mulC_nz ha.c hb.c ha.nz hb.nz)]
  rw [e3, e5, e6, e7] at h
  have h2 := sum_first (s := [32]) (b0 := []) (X := s ++ bodyW [32] b) ha rfl
  rw [h] at h2
  rw [txt_one, txt_one, hsb]
  simp only [Bool.false_eq_true, if_false, List.nil_append, List.append_assoc] at h2 ⊢
  rw [h2, rdMore]
end Go.Proofs.YtdamegaedmckbaaGreatDoor
end
section
namespace Go.Proofs.YtdamegaedmckbaaGreatDoor
open Go.RowKit

/-- What a product is answered by. -/
def RetPolyE (w : World) (l : List PT) (e : Ending) (w' : World) : Prop := ∃ a n c, e = .returned (.tuple #[.slice a n c, .int .i64 0]) ∧ PolyAt w' w.heap.size a n c l ∧ Below w.heap.size w w'
set_option maxRecDepth 100000 in
set_option maxHeartbeats 4000000 in
theorem mul_one_c (wo : World) (a : Option Addr) (c : Nat) (a' : Option Addr) (c' : Nat) (x y : PT) (h : PolyAt wo 0 a 1 c [x]) (h' : PolyAt wo 0 a' 1 c' [y]) (hx : PW [x]) (hy : PW [y]) (hfx : FewL 10000 [x]) (hfy : FewL 10000 [y])
    (hp : ∀ i, i < 4 → expo x.1 i + expo y.1 i < 65536) :
    Calls Tryz.prog 34 #[.slice a 1 c, .slice a' 1 c'] wo (RetPolyE wo [(keyM x.1 y.1, mulC x.2 y.2)]) := by
  have HB := Below.refl wo.heap.size wo
  have hmm := @run_makeMap Tryz.prog
  obtain ⟨p, hpp, hpx⟩ := h.ts
  obtain ⟨q, hqq, hqy⟩ := h'.ts
  have tx := (hpx 0 x rfl).1
  have ty := (hqy 0 y rfl).1
  have C1 := fun (W : World) (hW : Below wo.heap.size wo W) => check_at W 0 a 1 c [x] (h.keep hW) hx (hfx.mono (by omega))
  have C2 := fun (W : World) (hW : Below wo.heap.size wo W) => check_at W 0 a' 1 c' [y] (h'.keep hW) hy (hfy.mono (by omega))
  have HC := Lib.hid (And.intro C1 C2)
  clear C1 C2 h h' hpx hqy
  go_enter Tryz.func34, Tryz.ntmps34
  go_wp2_with fail
  refine (HC.out.1 wo HB).mono ?_
  rintro e w1 ⟨rfl, hb1⟩
  have B1 := HB.trans (hb1.mono HB.size)
  go_wp2_with fail
  refine (HC.out.2 w1 B1).mono ?_
  rintro e w2 ⟨rfl, hb2⟩
  have B2 := B1.trans (hb2.mono B1.size)
  have HM0 : MapAt (w2.alloc (.map #[] 0)) w2.heap.size 0 (w2.heap.size + 1) (fun _ => none) := ⟨.map [], World.ownsMap_made w2 Tryz.prog 66 RH, Holds4.empty _ _⟩
  go_wp2_with fail
  obtain ⟨b, o, rfl, hcl⟩ := hpp.cell.resolve_left (by omega)
  obtain ⟨b', o', rfl, hcl'⟩ := hqq.cell.resolve_left (by omega)
  obtain ⟨e0, e1, e2, e3, e4, e5, e6, e7⟩ := (hpp.keep B2).at (show 0 < 1 by omega)
  obtain ⟨i0, i1, i2, i3, i4, i5, i6, i7⟩ := (hqq.keep B2).at (show 0 < 1 by omega)
  have hr := (hpp.tm 0 (by omega)).keep B2
  have hr' := (hqq.tm 0 (by omega)).keep B2
  generalize p 0 = s at *
  generalize q 0 = t at *
  simp only [Nat.zero_mul, Nat.add_zero] at e0 e1 e2 e3 e4 e5 e6 e7 i0 i1 i2 i3 i4 i5 i6 i7
  clear hcl hcl' hpp hqq
  have B23 : Below w2.heap.size w2 (w2.alloc (.map #[] 0)) := by go_grown
  have hz3 : w2.heap.size < (w2.alloc (.map #[] 0)).heap.size := by simp
  replace e0 := cell_keep B23 e0
  replace i0 := cell_keep B23 i0
  replace e1 := cell_keep B23 e1
  replace i1 := cell_keep B23 i1
  replace e2 := cell_keep B23 e2
  replace i2 := cell_keep B23 i2
  replace e3 := cell_keep B23 e3
  replace i3 := cell_keep B23 i3
  replace e4 := cell_keep B23 e4
  replace i4 := cell_keep B23 i4
  replace e5 := cell_keep B23 e5
  replace i5 := cell_keep B23 i5
  replace e6 := cell_keep B23 e6
  replace i6 := cell_keep B23 i6
  replace e7 := cell_keep B23 e7
  replace i7 := cell_keep B23 i7
  replace hr := hr.keep B23
  replace hr' := hr'.keep B23
  have B3 := B2.trans (B23.mono B2.size)
  generalize w2.alloc (.map #[] 0) = w3 at *
  generalize hMB : w2.heap.size = MB at *
  have hs3 := B3.size
  refine wp_loop_rounds 2 ?_
  rw [rounds_succ]
  go_wp2_with fail
  have B34 : Below w3.heap.size w3 (w3.alloc (.cells #[.bool s.g1, .slice s.a1 s.n1 s.c1, .bool s.g2, .slice s.a2 s.n2 s.c2, .int .u16 s.m0, .int .u16 s.m1, .int .u16 s.m2, .int .u16 s.m3] 68)) := by go_grown
  have S0 : (w3.alloc (.cells #[.bool s.g1, .slice s.a1 s.n1 s.c1, .bool s.g2, .slice s.a2 s.n2 s.c2, .int .u16 s.m0, .int .u16 s.m1, .int .u16 s.m2, .int .u16 s.m3] 68)).cell? ⟨w3.heap.size, 0, none⟩ = some (.bool s.g1) := by simp [go_sem]
  have S1 : (w3.alloc (.cells #[.bool s.g1, .slice s.a1 s.n1 s.c1, .bool s.g2, .slice s.a2 s.n2 s.c2, .int .u16 s.m0, .int .u16 s.m1, .int .u16 s.m2, .int .u16 s.m3] 68)).cell? ⟨w3.heap.size, 1, none⟩ = some (.slice s.a1 s.n1 s.c1) := by simp [go_sem]
  have S2 : (w3.alloc (.cells #[.bool s.g1, .slice s.a1 s.n1 s.c1, .bool s.g2, .slice s.a2 s.n2 s.c2, .int .u16 s.m0, .int .u16 s.m1, .int .u16 s.m2, .int .u16 s.m3] 68)).cell? ⟨w3.heap.size, 2, none⟩ = some (.bool s.g2) := by simp [go_sem]
  have S3 : (w3.alloc (.cells #[.bool s.g1, .slice s.a1 s.n1 s.c1, .bool s.g2, .slice s.a2 s.n2 s.c2, .int .u16 s.m0, .int .u16 s.m1, .int .u16 s.m2, .int .u16 s.m3] 68)).cell? ⟨w3.heap.size, 3, none⟩ = some (.slice s.a2 s.n2 s.c2) := by simp [go_sem]
  have S4 : (w3.alloc (.cells #[.bool s.g1, .slice s.a1 s.n1 s.c1, .bool s.g2, .slice s.a2 s.n2 s.c2, .int .u16 s.m0, .int .u16 s.m1, .int .u16 s.m2, .int .u16 s.m3] 68)).cell? ⟨w3.heap.size, 4, none⟩ = some (.int .u16 s.m0) := by simp [go_sem]
  have S5 : (w3.alloc (.cells #[.bool s.g1, .slice s.a1 s.n1 s.c1, .bool s.g2, .slice s.a2 s.n2 s.c2, .int .u16 s.m0, .int .u16 s.m1, .int .u16 s.m2, .int .u16 s.m3] 68)).cell? ⟨w3.heap.size, 5, none⟩ = some (.int .u16 s.m1) := by simp [go_sem]
  have S6 : (w3.alloc (.cells #[.bool s.g1, .slice s.a1 s.n1 s.c1, .bool s.g2, .slice s.a2 s.n2 s.c2, .int .u16 s.m0, .int .u16 s.m1, .int .u16 s.m2, .int .u16 s.m3] 68)).cell? ⟨w3.heap.size, 6, none⟩ = some (.int .u16 s.m2) := by simp [go_sem]
  have S7 : (w3.alloc (.cells #[.bool s.g1, .slice s.a1 s.n1 s.c1, .bool s.g2, .slice s.a2 s.n2 s.c2, .int .u16 s.m0, .int .u16 s.m1, .int .u16 s.m2, .int .u16 s.m3] 68)).cell? ⟨w3.heap.size, 7, none⟩ = some (.int .u16 s.m3) := by simp [go_sem]
  replace i0 := cell_keep B34 i0
  replace i1 := cell_keep B34 i1
  replace i2 := cell_keep B34 i2
  replace i3 := cell_keep B34 i3
  replace i4 := cell_keep B34 i4
  replace i5 := cell_keep B34 i5
  replace i6 := cell_keep B34 i6
  replace i7 := cell_keep B34 i7
  have hz4 : w3.heap.size < (w3.alloc (.cells #[.bool s.g1, .slice s.a1 s.n1 s.c1, .bool s.g2, .slice s.a2 s.n2 s.c2, .int .u16 s.m0, .int .u16 s.m1, .int .u16 s.m2, .int .u16 s.m3] 68)).heap.size := by simp
  replace hr := hr.keep B34
  replace hr' := hr'.keep B34
  replace HM0 := HM0.keep B34
  have B4 := B3.trans (B34.mono B3.size)
  generalize (w3.alloc (.cells #[.bool s.g1, .slice s.a1 s.n1 s.c1, .bool s.g2, .slice s.a2 s.n2 s.c2, .int .u16 s.m0, .int .u16 s.m1, .int .u16 s.m2, .int .u16 s.m3] 68)) = w4 at *
  generalize hSB : w3.heap.size = SB at *
  clear e0 e1 e2 e3 e4 e5 e6 e7
  refine wp_loop_rounds 2 ?_
  rw [rounds_succ]
  go_wp2_with fail
  have B45 : Below w4.heap.size w4 (w4.alloc (.cells #[.bool t.g1, .slice t.a1 t.n1 t.c1, .bool t.g2, .slice t.a2 t.n2 t.c2, .int .u16 t.m0, .int .u16 t.m1, .int .u16 t.m2, .int .u16 t.m3] 68)) := by go_grown
  have T0 : (w4.alloc (.cells #[.bool t.g1, .slice t.a1 t.n1 t.c1, .bool t.g2, .slice t.a2 t.n2 t.c2, .int .u16 t.m0, .int .u16 t.m1, .int .u16 t.m2, .int .u16 t.m3] 68)).cell? ⟨w4.heap.size, 0, none⟩ = some (.bool t.g1) := by simp [go_sem]
  have T1 : (w4.alloc (.cells #[.bool t.g1, .slice t.a1 t.n1 t.c1, .bool t.g2, .slice t.a2 t.n2 t.c2, .int .u16 t.m0, .int .u16 t.m1, .int .u16 t.m2, .int .u16 t.m3] 68)).cell? ⟨w4.heap.size, 1, none⟩ = some (.slice t.a1 t.n1 t.c1) := by simp [go_sem]
  have T2 : (w4.alloc (.cells #[.bool t.g1, .slice t.a1 t.n1 t.c1, .bool t.g2, .slice t.a2 t.n2 t.c2, .int .u16 t.m0, .int .u16 t.m1, .int .u16 t.m2, .int .u16 t.m3] 68)).cell? ⟨w4.heap.size, 2, none⟩ = some (.bool t.g2) := by simp [go_sem]
  have T3 : (w4.alloc (.cells #[.bool t.g1, .slice t.a1 t.n1 t.c1, .bool t.g2, .slice t.a2 t.n2 t.c2, .int .u16 t.m0, .int .u16 t.m1, .int .u16 t.m2, .int .u16 t.m3] 68)).cell? ⟨w4.heap.size, 3, none⟩ = some (.slice t.a2 t.n2 t.c2) := by simp [go_sem]
  have T4 : (w4.alloc (.cells #[.bool t.g1, .slice t.a1 t.n1 t.c1, .bool t.g2, .slice t.a2 t.n2 t.c2, .int .u16 t.m0, .int .u16 t.m1, .int .u16 t.m2, .int .u16 t.m3] 68)).cell? ⟨w4.heap.size, 4, none⟩ = some (.int .u16 t.m0) := by simp [go_sem]
  have T5 : (w4.alloc (.cells #[.bool t.g1, .slice t.a1 t.n1 t.c1, .bool t.g2, .slice t.a2 t.n2 t.c2, .int .u16 t.m0, .int .u16 t.m1, .int .u16 t.m2, .int .u16 t.m3] 68)).cell? ⟨w4.heap.size, 5, none⟩ = some (.int .u16 t.m1) := by simp [go_sem]
  have T6 : (w4.alloc (.cells #[.bool t.g1, .slice t.a1 t.n1 t.c1, .bool t.g2, .slice t.a2 t.n2 t.c2, .int .u16 t.m0, .int .u16 t.m1, .int .u16 t.m2, .int .u16 t.m3] 68)).cell? ⟨w4.heap.size, 6, none⟩ = some (.int .u16 t.m2) := by simp [go_sem]
  have T7 : (w4.alloc (.cells #[.bool t.g1, .slice t.a1 t.n1 t.c1, .bool t.g2, .slice t.a2 t.n2 t.c2, .int .u16 t.m0, .int .u16 t.m1, .int .u16 t.m2, .int .u16 t.m3] 68)).cell? ⟨w4.heap.size, 7, none⟩ = some (.int .u16 t.m3) := by simp [go_sem]
  replace S0 := cell_keep B45 S0
  replace S1 := cell_keep B45 S1
  replace S2 := cell_keep B45 S2
  replace S3 := cell_keep B45 S3
  replace S4 := cell_keep B45 S4
  replace S5 := cell_keep B45 S5
  replace S6 := cell_keep B45 S6
  replace S7 := cell_keep B45 S7
  have hz5 : w4.heap.size < (w4.alloc (.cells #[.bool t.g1, .slice t.a1 t.n1 t.c1, .bool t.g2, .slice t.a2 t.n2 t.c2, .int .u16 t.m0, .int .u16 t.m1, .int .u16 t.m2, .int .u16 t.m3] 68)).heap.size := by simp
  replace hr := hr.keep B45
  replace hr' := hr'.keep B45
  replace HM0 := HM0.keep B45
  have B5 := B4.trans (B45.mono B4.size)
  generalize (w4.alloc (.cells #[.bool t.g1, .slice t.a1 t.n1 t.c1, .bool t.g2, .slice t.a2 t.n2 t.c2, .int .u16 t.m0, .int .u16 t.m1, .int .u16 t.m2, .int .u16 t.m3] 68)) = w5 at *
  generalize hTB : w4.heap.size = TB at *
  clear i0 i1 i2 i3 i4 i5 i6 i7
  have ex : expo x.1 = quadN s.m0 s.m1 s.m2 s.m3 := by rw [← tx.key]; exact expo_key hr.s1 hr.s2 hr.s3
  have ey : expo y.1 = quadN t.m0 t.m1 t.m2 t.m3 := by rw [← ty.key]; exact expo_key hr'.s1 hr'.s2 hr'.s3
  obtain ⟨u0, hu0⟩ : ∃ u, u = s.m0 + t.m0 := ⟨_, rfl⟩
  obtain ⟨u1, hu1⟩ : ∃ u, u = s.m1 + t.m1 := ⟨_, rfl⟩
  obtain ⟨u2, hu2⟩ : ∃ u, u = s.m2 + t.m2 := ⟨_, rfl⟩
  obtain ⟨u3, hu3⟩ : ∃ u, u = s.m3 + t.m3 := ⟨_, rfl⟩
  have q0 : u0 < 65536 := by have h := hp 0 (by omega); rw [ex, ey] at h; rw [hu0]; exact h
  have q1 : u1 < 65536 := by have h := hp 1 (by omega); rw [ex, ey] at h; rw [hu1]; exact h
  have q2 : u2 < 65536 := by have h := hp 2 (by omega); rw [ex, ey] at h; rw [hu2]; exact h
  have q3 : u3 < 65536 := by have h := hp 3 (by omega); rw [ex, ey] at h; rw [hu3]; exact h
  have hkey : key4 u0 u1 u2 u3 = keyM x.1 y.1 := by unfold keyM; rw [ex, ey, hu0, hu1, hu2, hu3]; rfl
  have HK := Lib.hid hkey
  have HCX := Lib.hid (hx.good x (by simp))
  have HCY := Lib.hid (hy.good y (by simp))
  have hfr := tx.frac hr HCX.out.1
  have hfr' := ty.frac hr' HCY.out.1
  have lx := hfx x (by simp)
  have ly := hfy y (by simp)
  have z1 := hfr.top.rd.len
  have z2 := hfr.low.rd.len
  have z3 := hfr'.top.rd.len
  have z4 := hfr'.low.rd.len
  have v1 : s.n1 ≤ 1000000000 := by omega
  have v2 : s.n2 ≤ 1000000000 := by omega
  have v3 : t.n1 ≤ 1000000000 := by omega
  have v4 : t.n2 ≤ 1000000000 := by omega
  have MM := monoMul_c w5 s.m0 s.m1 s.m2 s.m3 t.m0 t.m1 t.m2 t.m3 u0 u1 u2 u3 hu0 hu1 hu2 hu3 q0 q1 q2 q3
  have hSlt : SB < w5.heap.size := World.block_lt_of_cell? _ _ S0
  have hTlt : TB < w5.heap.size := World.block_lt_of_cell? _ _ T0
  clear hu0 hu1 hu2 hu3 ex ey hkey z1 z2 z3 z4 lx ly hp
  refine MM.mono ?_
  rintro e w6 ⟨rfl, hb6⟩
  replace S0 := cell_keep hb6 S0
  replace T0 := cell_keep hb6 T0
  replace S1 := cell_keep hb6 S1
  replace T1 := cell_keep hb6 T1
  replace S2 := cell_keep hb6 S2
  replace T2 := cell_keep hb6 T2
  replace S3 := cell_keep hb6 S3
  replace T3 := cell_keep hb6 T3
  replace S4 := cell_keep hb6 S4
  replace T4 := cell_keep hb6 T4
  replace S5 := cell_keep hb6 S5
  replace T5 := cell_keep hb6 T5
  replace S6 := cell_keep hb6 S6
  replace T6 := cell_keep hb6 T6
  replace S7 := cell_keep hb6 S7
  replace T7 := cell_keep hb6 T7
  have hs6 := hb6.size
  have B6 := B5.trans (hb6.mono B5.size)
  replace HM0 := HM0.keep hb6
  replace hfr := hfr.keep hb6
  replace hfr' := hfr'.keep hb6
  clear MM hr hr' hb6
  go_wp2_with fail
  refine wp_name ?_
  intro w7 hw7
  have M0 : w7.cell? ⟨w6.heap.size, 0, none⟩ = some (.int .u16 u0) := by rw [hw7]; simp [go_sem]
  have M1 : w7.cell? ⟨w6.heap.size, 1, none⟩ = some (.int .u16 u1) := by rw [hw7]; simp [go_sem]
  have M2 : w7.cell? ⟨w6.heap.size, 2, none⟩ = some (.int .u16 u2) := by rw [hw7]; simp [go_sem]
  have M3 : w7.cell? ⟨w6.heap.size, 3, none⟩ = some (.int .u16 u3) := by rw [hw7]; simp [go_sem]
  have B67 : Below w6.heap.size w6 w7 := by rw [hw7]; go_grown
  have hz7 : w6.heap.size < w7.heap.size := by rw [hw7]; simp
  replace S0 := cell_keep B67 S0
  replace T0 := cell_keep B67 T0
  replace S1 := cell_keep B67 S1
  replace T1 := cell_keep B67 T1
  replace S2 := cell_keep B67 S2
  replace T2 := cell_keep B67 T2
  replace S3 := cell_keep B67 S3
  replace T3 := cell_keep B67 T3
  replace S4 := cell_keep B67 S4
  replace T4 := cell_keep B67 T4
  replace S5 := cell_keep B67 S5
  replace T5 := cell_keep B67 T5
  replace S6 := cell_keep B67 S6
  replace T6 := cell_keep B67 T6
  replace S7 := cell_keep B67 S7
  replace T7 := cell_keep B67 T7
  have B7 := B6.trans (B67.mono B6.size)
  replace HM0 := HM0.keep B67
  replace hfr := hfr.keep B67
  replace hfr' := hfr'.keep B67
  have hMlt : MB < w7.heap.size := by obtain ⟨D, hD, _⟩ := HM0.ex; exact hD.lt
  have HB7 := Below.refl w7.heap.size w7
  have MBn1 : MB < SB := by omega
  have MBn2 : MB < TB := by omega
  have MBn3 : MB < w6.heap.size := by omega
  have hff : FewC 1000000000 (mulC x.2 y.2) := FewC.mono (FewC.mul HCX.out.1 HCY.out.1 (hfx x (by simp)) (hfy y (by simp))) (by omega)
  have HFF := Lib.hid (FewC.mul HCX.out.1 HCY.out.1 (hfx x (by simp)) (hfy y (by simp)))
  have HMN := Lib.hid (show insF (fun _ => none) (key4 u0 u1 u2 u3, mulC x.2 y.2) = mapF [(key4 u0 u1 u2 u3, mulC x.2 y.2)] from rfl)
  clear hw7 B67 S4 S5 S6 S7 T4 T5 T6 T7
  go_region_held3 (fun W => W.cell? ⟨SB, 0, none⟩ = some (.bool s.g1) ∧ W.cell? ⟨SB, 1, none⟩ = some (.slice s.a1 s.n1 s.c1) ∧ W.cell? ⟨SB, 2, none⟩ = some (.bool s.g2) ∧ W.cell? ⟨SB, 3, none⟩ = some (.slice s.a2 s.n2 s.c2) ∧ W.cell? ⟨TB, 0, none⟩ = some (.bool t.g1) ∧ W.cell? ⟨TB, 1, none⟩ = some (.slice t.a1 t.n1 t.c1) ∧ W.cell? ⟨TB, 2, none⟩ = some (.bool t.g2) ∧ W.cell? ⟨TB, 3, none⟩ = some (.slice t.a2 t.n2 t.c2) ∧ W.cell? ⟨w6.heap.size, 0, none⟩ = some (.int .u16 u0) ∧ W.cell? ⟨w6.heap.size, 1, none⟩ = some (.int .u16 u1) ∧ W.cell? ⟨w6.heap.size, 2, none⟩ = some (.int .u16 u2) ∧ W.cell? ⟨w6.heap.size, 3, none⟩ = some (.int .u16 u3)) (first | ((try dsimp only); (repeat' apply And.intro); all_goals (first | (with_reducible assumption) | (go_keep; done) | (simp [*, go_sem]; done)))) (first
    | (go_at_call 106; (with_reducible refine (fMul_c _ _ _ _ _ _ _ _ _ _ _ (hfr.keep (by go_grown)) _ _ _ _ _ _ _ _ _ _ (hfr'.keep (by go_grown)) v1 v2 v3 v4).mono ?_); rintro e w8 ⟨gm1, am1, nm1, cm1, gm2, am2, nm2, cm2, rfl, hmul0, hfm1, hfm2, hb8⟩; have hmul : FracAt w8 gm1 am1 nm1 cm1 (mulC x.2 y.2).1 gm2 am2 nm2 cm2 (mulC x.2 y.2).2 := hmul0; have HB8 : Below w7.heap.size w7 w8 := Below.trans (by go_grown) (hb8.mono (by first | exact Nat.le_refl _ | assumption | go_size | (simp; omega))); have hz8 := HB8.size; have km1 : Nw (MB + 1) nm1 am1 := Nw.mono (hfm1.newA hmul.top.rd) (by first | go_size | (simp; omega) | omega); have km2 : Nw (MB + 1) nm2 am2 := Nw.mono (hfm2.newA hmul.low.rd) (by first | go_size | (simp; omega) | omega); replace S0 := cell_keep HB8 S0; replace T0 := cell_keep HB8 T0; replace S1 := cell_keep HB8 S1; replace T1 := cell_keep HB8 T1; replace S2 := cell_keep HB8 S2; replace T2 := cell_keep HB8 T2; replace S3 := cell_keep HB8 S3; replace T3 := cell_keep HB8 T3; replace M0 := cell_keep HB8 M0; replace M1 := cell_keep HB8 M1; replace M2 := cell_keep HB8 M2; replace M3 := cell_keep HB8 M3)
    | (go_at_call 110; (with_reducible refine (add_c w8 MB 0 (MB + 1) (fun _ => none) (HM0.keep HB8) (Nat.lt_succ_self _) (by omega) (by omega) gm1 am1 nm1 cm1 gm2 am2 nm2 cm2 (mulC x.2 y.2) hmul km1 km2 u0 u1 u2 u3 q0 q1 q2 q3 hff (fun y hy => by cases hy)).mono ?_); rintro e w9 ⟨rfl, hM9, hg9⟩; replace S0 := hg9.cell S0 (by simp; omega); replace S1 := hg9.cell S1 (by simp; omega); replace S2 := hg9.cell S2 (by simp; omega); replace S3 := hg9.cell S3 (by simp; omega); replace T0 := hg9.cell T0 (by simp; omega); replace T1 := hg9.cell T1 (by simp; omega); replace T2 := hg9.cell T2 (by simp; omega); replace T3 := hg9.cell T3 (by simp; omega); replace M0 := hg9.cell M0 (by simp; omega); replace M1 := hg9.cell M1 (by simp; omega); replace M2 := hg9.cell M2 (by simp; omega); replace M3 := hg9.cell M3 (by simp; omega)))
  have B9 : Below wo.heap.size wo w9 := Below.grown (B7.trans (HB8.mono B7.size)) hg9 (by omega) (fun j hj => by cases hj; have := B2.size; omega)
  go_wp2_with fail
  rw [rounds_succ]
  go_wp2_with fail
  rw [rounds_succ]
  go_wp2_with fail
  obtain ⟨X, hX⟩ : ∃ X, X = (key4 u0 u1 u2 u3, mulC x.2 y.2) := ⟨_, rfl⟩
  have hM10 : MapAt w9 MB 1 (MB + 1) (mapF [X]) := by rw [hX]; exact hM9
  have hXc : CW X.2 ∧ X.2.1 ≠ 0 := by rw [hX]; exact ⟨HCX.out.1.mul HCY.out.1, mulC_nz HCX.out.1 HCY.out.1 HCX.out.2 HCY.out.2⟩
  have hXk : X.1 < 18446744073709551616 := by rw [hX]; exact key4_lt q0 q1 q2 q3
  have hXf : FewC 20000 X.2 := by rw [hX]; exact HFF.out
  have hXe : X = (keyM x.1 y.1, mulC x.2 y.2) := by rw [hX, HK.out]
  have HXE := Lib.hid hXe
  have hpw : PW [X] := ⟨by simp, fun t ht => by simp only [List.mem_singleton] at ht; subst ht; exact hXc, fun t ht => by simp only [List.mem_singleton] at ht; subst ht; exact hXk⟩
  have hkk : ∀ j z, mapF [X] j = some z → j < 18446744073709551616 ∧ FewC 1000000 z := fun j z hz => by
    rw [mapF_falls hpw.falls] at hz
    have hm := lk_mem hz
    simp only [List.mem_singleton] at hm
    rw [← hm] at hXk hXf
    exact ⟨hXk, FewC.mono hXf (by omega)⟩
  have hlt9 : MB < w9.heap.size := by obtain ⟨D, hD, _⟩ := hM9.ex; exact hD.lt
  have HPW := Lib.hid hpw
  clear hX hXe hM9 hXc hXk hXf hpw
  refine (sum_c w9 MB 1 (MB + 1) (mapF [X]) hM10 (by omega) (by omega) hkk).mono ?_
  rintro e w10 ⟨a6, n6, c6, r, rfl, hr6, hfr6, hmr, hb10⟩
  have hrl : r = [X] := falls_ext hfr6 HPW.out.falls fun t => by
    obtain ⟨k, z⟩ := t
    rw [hmr, mapF_falls HPW.out.falls]
    constructor
    · rintro ⟨h1, _⟩; exact lk_mem h1
    · intro h1; exact ⟨lk_of_mem HPW.out.falls h1, (HPW.out.good _ h1).2⟩
  rw [hrl] at hr6
  rw [HXE.out] at hr6
  clear hrl hmr hfr6 hkk hM10
  go_wp2_with fail
  refine bodyPost_ret (v := .tuple #[.slice a6 n6 c6, .int .i64 0]) (by simp [*, results, Tryz.results34, go_sem]) rfl ?_
  exact ⟨a6, n6, c6, rfl, hr6.mono (by have := B2.size; omega), B9.trans (hb10.mono B9.size)⟩
end Go.Proofs.YtdamegaedmckbaaGreatDoor
end
section
namespace Go.Proofs.YtdamegaedmckbaaGreatDoor
open Go.RowKit

set_option maxRecDepth 100000 in
set_option maxHeartbeats 2000000 in
theorem pCheckB_c (w : World) (a : Option Addr) (n c : Nat) (p : Nat → Tm) (hp : RdP w a n c p) (hsm : ∀ k, k < n → (p k).n1 ≤ 35184372087808 ∧ (p k).n2 ≤ 35184372087808) (r : Bool) (hr : POk p n ↔ r = true) :
    Calls Tryz.prog 23 #[.slice a n c] w fun e w' => e = .returned (.bool r) ∧ Below w.heap.size w w' := by
  have HB := Below.refl w.heap.size w
  have hn := hp.few
  have HR := Lib.hid hr
  have HS := Lib.hid hsm
  clear hr hsm
  go_enter Tryz.func23, Tryz.ntmps23
  go_wp2_with fail
  go_loopw [7] (fun v wr => ∃ k : Nat, k ≤ n ∧ v = .int .i64 k ∧ Below w.heap.size w wr ∧ Hid (POk p k)) (fun v _ => n - (intOf v).toNat)
  case atStart => exact ⟨0, Nat.zero_le _, rfl, HB, Lib.hid (fun j hj => absurd hj (Nat.not_lt_zero _))⟩
  case round =>
    obtain ⟨k, hk, rfl, HBr, he⟩ := hrel
    clear HB
    by_cases hlt : k < n
    · obtain ⟨b, o, rfl, hcl⟩ := hp.cell.resolve_left (by omega)
      have hpr := hp.keep HBr
      have HT := hpr.tm k hlt
      obtain ⟨e0, e1, e2, e3, e4, e5, e6, e7⟩ := hpr.at hlt
      have hs := HS.out k hlt
      have HCL := Lib.hid hcl
      clear hcl
      cases k with
      | zero =>
        obtain ⟨t, ht⟩ : ∃ t, t = p 0 := ⟨_, rfl⟩
        rw [← ht] at HT e0 e1 e2 e3 e4 e5 e6 e7 hs
        have HTK := Lib.hid ht
        clear ht
        simp only [Nat.zero_mul, Nat.add_zero] at e0 e1 e2 e3 e4 e5 e6 e7
        have hszw := HBr.size
        go_upto_region 4 with fail
        have HB1 : Below w.heap.size w (wr.alloc (.cells #[.bool t.g1, .slice t.a1 t.n1 t.c1, .bool t.g2, .slice t.a2 t.n2 t.c2, .int .u16 t.m0, .int .u16 t.m1, .int .u16 t.m2, .int .u16 t.m3] 68)) := by go_grown
        have c0 : (wr.alloc (.cells #[.bool t.g1, .slice t.a1 t.n1 t.c1, .bool t.g2, .slice t.a2 t.n2 t.c2, .int .u16 t.m0, .int .u16 t.m1, .int .u16 t.m2, .int .u16 t.m3] 68)).cell? ⟨wr.heap.size, 0, none⟩ = some (.bool t.g1) := by simp [go_sem]
        have c1 : (wr.alloc (.cells #[.bool t.g1, .slice t.a1 t.n1 t.c1, .bool t.g2, .slice t.a2 t.n2 t.c2, .int .u16 t.m0, .int .u16 t.m1, .int .u16 t.m2, .int .u16 t.m3] 68)).cell? ⟨wr.heap.size, 1, none⟩ = some (.slice t.a1 t.n1 t.c1) := by simp [go_sem]
        have c2 : (wr.alloc (.cells #[.bool t.g1, .slice t.a1 t.n1 t.c1, .bool t.g2, .slice t.a2 t.n2 t.c2, .int .u16 t.m0, .int .u16 t.m1, .int .u16 t.m2, .int .u16 t.m3] 68)).cell? ⟨wr.heap.size, 2, none⟩ = some (.bool t.g2) := by simp [go_sem]
        have c3 : (wr.alloc (.cells #[.bool t.g1, .slice t.a1 t.n1 t.c1, .bool t.g2, .slice t.a2 t.n2 t.c2, .int .u16 t.m0, .int .u16 t.m1, .int .u16 t.m2, .int .u16 t.m3] 68)).cell? ⟨wr.heap.size, 3, none⟩ = some (.slice t.a2 t.n2 t.c2) := by simp [go_sem]
        have c4 : (wr.alloc (.cells #[.bool t.g1, .slice t.a1 t.n1 t.c1, .bool t.g2, .slice t.a2 t.n2 t.c2, .int .u16 t.m0, .int .u16 t.m1, .int .u16 t.m2, .int .u16 t.m3] 68)).cell? ⟨wr.heap.size, 4, none⟩ = some (.int .u16 t.m0) := by simp [go_sem]
        have c5 : (wr.alloc (.cells #[.bool t.g1, .slice t.a1 t.n1 t.c1, .bool t.g2, .slice t.a2 t.n2 t.c2, .int .u16 t.m0, .int .u16 t.m1, .int .u16 t.m2, .int .u16 t.m3] 68)).cell? ⟨wr.heap.size, 5, none⟩ = some (.int .u16 t.m1) := by simp [go_sem]
        have c6 : (wr.alloc (.cells #[.bool t.g1, .slice t.a1 t.n1 t.c1, .bool t.g2, .slice t.a2 t.n2 t.c2, .int .u16 t.m0, .int .u16 t.m1, .int .u16 t.m2, .int .u16 t.m3] 68)).cell? ⟨wr.heap.size, 6, none⟩ = some (.int .u16 t.m2) := by simp [go_sem]
        have c7 : (wr.alloc (.cells #[.bool t.g1, .slice t.a1 t.n1 t.c1, .bool t.g2, .slice t.a2 t.n2 t.c2, .int .u16 t.m0, .int .u16 t.m1, .int .u16 t.m2, .int .u16 t.m3] 68)).cell? ⟨wr.heap.size, 7, none⟩ = some (.int .u16 t.m3) := by simp [go_sem]
        have hb1 : Below wr.heap.size wr (wr.alloc (.cells #[.bool t.g1, .slice t.a1 t.n1 t.c1, .bool t.g2, .slice t.a2 t.n2 t.c2, .int .u16 t.m0, .int .u16 t.m1, .int .u16 t.m2, .int .u16 t.m3] 68)) := by go_grown
        replace HT := HT.keep hb1
        generalize (wr.alloc (.cells #[.bool t.g1, .slice t.a1 t.n1 t.c1, .bool t.g2, .slice t.a2 t.n2 t.c2, .int .u16 t.m0, .int .u16 t.m1, .int .u16 t.m2, .int .u16 t.m3] 68)) = w1 at *
        generalize wr.heap.size = B at *
        have hs1 : t.n1 < 35184372088829 := by omega
        have hs2 : t.n2 < 35184372088829 := by omega
        replace c0 := growC c0
        replace c1 := growC c1
        replace c2 := growC c2
        replace c3 := growC c3
        replace c4 := growC c4
        replace c5 := growC c5
        replace c6 := growC c6
        replace c7 := growC c7
        clear hb1 hpr HBr
        by_cases hF0 : FOk t.g1 t.d1 t.g2 t.d2
        · have hF := Lib.hid hF0
          have HA := fracAt_of HT.top HT.low hF0
          have hsz := sgn_zero hF0.1
          generalize (if t.g1 then -(val t.d1 : Int) else (val t.d1 : Int)) = z at *
          clear hF0
          by_cases hz0 : z = 0
          · have hd0 := Lib.hid (hsz.1 hz0)
            have hz : cmpI z 0 = 0 := by rw [hz0]; exact cmpI_eq 0
            have hr0 : r = false := by
              cases r
              · rfl
              · exact absurd hd0.out (by have := (HR.out.2 rfl _ hlt).1.2; rw [HTK.out]; exact this)
            subst hr0
            clear hz0 hsz
            (refine wp_region_grow (by kernel_rfl) (by kernel_rfl) ?_; (repeat (go_big_quiet_step (first | (go_at_call 93; exact growL (fCheck_c _ t.g1 t.a1 t.n1 t.c1 t.d1 (HT.top.keep (Subtype.property _)) t.g2 t.a2 t.n2 t.c2 t.d2 (HT.low.keep (Subtype.property _)) hs2 hs1 true ⟨fun _ => rfl, fun _ => hF.out⟩)) | (go_at_call 31; exact growL (fSign_c _ _ _ _ _ _ _ _ _ _ _ (HA.keep (Subtype.property _)) hs2 hs1))))); refine wpQuiet_nil ?_; intro _ hw0; obtain ⟨nq, hw0⟩ := hw0; subst hw0)
            go_wp2_with fail
            go_ret
            exact ⟨rfl, HB1.trans (nq.2.mono HB1.size)⟩
          · have hd0 := Lib.hid (fun e => hz0 (hsz.2 e))
            have hz : (cmpI z 0 == 0) = false := by rw [beq_eq_false_iff_ne]; exact fun e => hz0 (cmpI_zero.1 e)
            clear hz0 hsz
            (refine wp_region_grow (by kernel_rfl) (by kernel_rfl) ?_; (repeat (go_big_quiet_step (first | (go_at_call 93; exact growL (fCheck_c _ t.g1 t.a1 t.n1 t.c1 t.d1 (HT.top.keep (Subtype.property _)) t.g2 t.a2 t.n2 t.c2 t.d2 (HT.low.keep (Subtype.property _)) hs2 hs1 true ⟨fun _ => rfl, fun _ => hF.out⟩)) | (go_at_call 31; exact growL (fSign_c _ _ _ _ _ _ _ _ _ _ _ (HA.keep (Subtype.property _)) hs2 hs1))))); refine wpQuiet_nil ?_; intro _ hw0; obtain ⟨nq, hw0⟩ := hw0; subst hw0)
            go_wp2_with fail
            go_roundw
            case rel => exact ⟨1, by omega, rfl, HB1.trans (nq.2.mono HB1.size), Lib.hid (fun i hi => by have h0 : i = 0 := (by omega); subst h0; exact ⟨by rw [← HTK.out]; exact ⟨hF.out, hd0.out⟩, fun h => absurd h (by omega)⟩)⟩
            case measure => simp [intOf]; omega
        · have hF := Lib.hid hF0
          have hr0 : r = false := by
            cases r
            · rfl
            · exact absurd (by have := (HR.out.2 rfl _ hlt).1.1; rw [HTK.out]; exact this) hF0
          subst hr0
          clear hF0
          (refine wp_region_grow (by kernel_rfl) (by kernel_rfl) ?_; (repeat (go_big_quiet_step (first | (go_at_call 93; exact growL (fCheck_c _ t.g1 t.a1 t.n1 t.c1 t.d1 (HT.top.keep (Subtype.property _)) t.g2 t.a2 t.n2 t.c2 t.d2 (HT.low.keep (Subtype.property _)) hs2 hs1 false ⟨fun e => absurd e hF.out, fun e => (by cases e)⟩))))); refine wpQuiet_nil ?_; intro _ hw0; obtain ⟨nq, hw0⟩ := hw0; subst hw0)
          go_wp2_with fail
          go_ret
          exact ⟨rfl, HB1.trans (nq.2.mono HB1.size)⟩
      | succ j =>
        obtain ⟨t, ht⟩ : ∃ t, t = p (j + 1) := ⟨_, rfl⟩
        rw [← ht] at HT e0 e1 e2 e3 e4 e5 e6 e7 hs
        have HTK := Lib.hid ht
        clear ht
        have hszw := HBr.size
        have hjn : j < n := by omega
        go_upto_region 4 with fail
        clear e0 e1 e2 e3 e4 e5 e6 e7
        obtain ⟨_, _, _, _, e4, e5, e6, e7⟩ := hpr.at (show j < n by omega)
        obtain ⟨u, hu⟩ : ∃ u, u = p j := ⟨_, rfl⟩
        rw [← hu] at e4 e5 e6 e7
        have HUK := Lib.hid hu
        clear hu
        have HB1 : Below w.heap.size w (wr.alloc (.cells #[.bool t.g1, .slice t.a1 t.n1 t.c1, .bool t.g2, .slice t.a2 t.n2 t.c2, .int .u16 t.m0, .int .u16 t.m1, .int .u16 t.m2, .int .u16 t.m3] 68)) := by go_grown
        have c0 : (wr.alloc (.cells #[.bool t.g1, .slice t.a1 t.n1 t.c1, .bool t.g2, .slice t.a2 t.n2 t.c2, .int .u16 t.m0, .int .u16 t.m1, .int .u16 t.m2, .int .u16 t.m3] 68)).cell? ⟨wr.heap.size, 0, none⟩ = some (.bool t.g1) := by simp [go_sem]
        have c1 : (wr.alloc (.cells #[.bool t.g1, .slice t.a1 t.n1 t.c1, .bool t.g2, .slice t.a2 t.n2 t.c2, .int .u16 t.m0, .int .u16 t.m1, .int .u16 t.m2, .int .u16 t.m3] 68)).cell? ⟨wr.heap.size, 1, none⟩ = some (.slice t.a1 t.n1 t.c1) := by simp [go_sem]
        have c2 : (wr.alloc (.cells #[.bool t.g1, .slice t.a1 t.n1 t.c1, .bool t.g2, .slice t.a2 t.n2 t.c2, .int .u16 t.m0, .int .u16 t.m1, .int .u16 t.m2, .int .u16 t.m3] 68)).cell? ⟨wr.heap.size, 2, none⟩ = some (.bool t.g2) := by simp [go_sem]
        have c3 : (wr.alloc (.cells #[.bool t.g1, .slice t.a1 t.n1 t.c1, .bool t.g2, .slice t.a2 t.n2 t.c2, .int .u16 t.m0, .int .u16 t.m1, .int .u16 t.m2, .int .u16 t.m3] 68)).cell? ⟨wr.heap.size, 3, none⟩ = some (.slice t.a2 t.n2 t.c2) := by simp [go_sem]
        have c4 : (wr.alloc (.cells #[.bool t.g1, .slice t.a1 t.n1 t.c1, .bool t.g2, .slice t.a2 t.n2 t.c2, .int .u16 t.m0, .int .u16 t.m1, .int .u16 t.m2, .int .u16 t.m3] 68)).cell? ⟨wr.heap.size, 4, none⟩ = some (.int .u16 t.m0) := by simp [go_sem]
        have c5 : (wr.alloc (.cells #[.bool t.g1, .slice t.a1 t.n1 t.c1, .bool t.g2, .slice t.a2 t.n2 t.c2, .int .u16 t.m0, .int .u16 t.m1, .int .u16 t.m2, .int .u16 t.m3] 68)).cell? ⟨wr.heap.size, 5, none⟩ = some (.int .u16 t.m1) := by simp [go_sem]
        have c6 : (wr.alloc (.cells #[.bool t.g1, .slice t.a1 t.n1 t.c1, .bool t.g2, .slice t.a2 t.n2 t.c2, .int .u16 t.m0, .int .u16 t.m1, .int .u16 t.m2, .int .u16 t.m3] 68)).cell? ⟨wr.heap.size, 6, none⟩ = some (.int .u16 t.m2) := by simp [go_sem]
        have c7 : (wr.alloc (.cells #[.bool t.g1, .slice t.a1 t.n1 t.c1, .bool t.g2, .slice t.a2 t.n2 t.c2, .int .u16 t.m0, .int .u16 t.m1, .int .u16 t.m2, .int .u16 t.m3] 68)).cell? ⟨wr.heap.size, 7, none⟩ = some (.int .u16 t.m3) := by simp [go_sem]
        have hb1 : Below wr.heap.size wr (wr.alloc (.cells #[.bool t.g1, .slice t.a1 t.n1 t.c1, .bool t.g2, .slice t.a2 t.n2 t.c2, .int .u16 t.m0, .int .u16 t.m1, .int .u16 t.m2, .int .u16 t.m3] 68)) := by go_grown
        have e4 := cell_keep hb1 e4
        have e5 := cell_keep hb1 e5
        have e6 := cell_keep hb1 e6
        have e7 := cell_keep hb1 e7
        replace HT := HT.keep hb1
        generalize (wr.alloc (.cells #[.bool t.g1, .slice t.a1 t.n1 t.c1, .bool t.g2, .slice t.a2 t.n2 t.c2, .int .u16 t.m0, .int .u16 t.m1, .int .u16 t.m2, .int .u16 t.m3] 68)) = w1 at *
        generalize wr.heap.size = B at *
        have hs1 : t.n1 < 35184372088829 := by omega
        have hs2 : t.n2 < 35184372088829 := by omega
        replace c0 := growC c0
        replace c1 := growC c1
        replace c2 := growC c2
        replace c3 := growC c3
        replace c4 := growC c4
        replace c5 := growC c5
        replace c6 := growC c6
        replace c7 := growC c7
        replace e4 := growC e4
        replace e5 := growC e5
        replace e6 := growC e6
        replace e7 := growC e7
        clear hb1 hpr HBr
        by_cases hF0 : FOk t.g1 t.d1 t.g2 t.d2
        · have hF := Lib.hid hF0
          have HA := fracAt_of HT.top HT.low hF0
          have hsz := sgn_zero hF0.1
          generalize (if t.g1 then -(val t.d1 : Int) else (val t.d1 : Int)) = z at *
          clear hF0
          by_cases hz0 : z = 0
          · have hd0 := Lib.hid (hsz.1 hz0)
            have hz : cmpI z 0 = 0 := by rw [hz0]; exact cmpI_eq 0
            have hr0 : r = false := by
              cases r
              · rfl
              · exact absurd hd0.out (by have := (HR.out.2 rfl _ hlt).1.2; rw [HTK.out]; exact this)
            subst hr0
            clear hz0 hsz
            (refine wp_region_grow (by kernel_rfl) (by kernel_rfl) ?_; (repeat (go_big_quiet_step (first | (go_at_call 93; exact growL (fCheck_c _ t.g1 t.a1 t.n1 t.c1 t.d1 (HT.top.keep (Subtype.property _)) t.g2 t.a2 t.n2 t.c2 t.d2 (HT.low.keep (Subtype.property _)) hs2 hs1 true ⟨fun _ => rfl, fun _ => hF.out⟩)) | (go_at_call 31; exact growL (fSign_c _ _ _ _ _ _ _ _ _ _ _ (HA.keep (Subtype.property _)) hs2 hs1)) | (go_at_call 94; exact growL (falls_c _ _ _ _ _ _ _ _ _))))); refine wpQuiet_nil ?_; intro _ hw0; obtain ⟨nq, hw0⟩ := hw0; subst hw0)
            go_wp2_with fail
            go_ret
            exact ⟨rfl, HB1.trans (nq.2.mono HB1.size)⟩
          · have hd0 := Lib.hid (fun e => hz0 (hsz.2 e))
            have hz : (cmpI z 0 == 0) = false := by rw [beq_eq_false_iff_ne]; exact fun e => hz0 (cmpI_zero.1 e)
            clear hz0 hsz
            by_cases hl0 : lexF (quad t.m0 t.m1 t.m2 t.m3) (quad u.m0 u.m1 u.m2 u.m3) < 0
            · have hl := Lib.hid hl0
              have hl1 : decide (0 ≤ lexF (quad t.m0 t.m1 t.m2 t.m3) (quad u.m0 u.m1 u.m2 u.m3)) = false := by rw [decide_eq_false_iff_not]; omega
              clear hl0
              (refine wp_region_grow (by kernel_rfl) (by kernel_rfl) ?_; (repeat (go_big_quiet_step (first | (go_at_call 93; exact growL (fCheck_c _ t.g1 t.a1 t.n1 t.c1 t.d1 (HT.top.keep (Subtype.property _)) t.g2 t.a2 t.n2 t.c2 t.d2 (HT.low.keep (Subtype.property _)) hs2 hs1 true ⟨fun _ => rfl, fun _ => hF.out⟩)) | (go_at_call 31; exact growL (fSign_c _ _ _ _ _ _ _ _ _ _ _ (HA.keep (Subtype.property _)) hs2 hs1)) | (go_at_call 94; exact growL (falls_c _ _ _ _ _ _ _ _ _))))); refine wpQuiet_nil ?_; intro _ hw0; obtain ⟨nq, hw0⟩ := hw0; subst hw0)
              go_wp2_with fail
              go_roundw
              case rel => exact ⟨j + 1 + 1, by omega, by simp, HB1.trans (nq.2.mono HB1.size), Lib.hid (fun i hi => by
              rcases Nat.lt_or_ge i (j + 1) with h | h
              · exact he.out i h
              · obtain rfl : i = j + 1 := by omega
                exact ⟨by rw [← HTK.out]; exact ⟨hF.out, hd0.out⟩, fun _ => by rw [← HTK.out, Nat.add_sub_cancel, ← HUK.out]; exact hl.out⟩)⟩
              case measure => simp [intOf]; omega
            · have hl1 : decide (0 ≤ lexF (quad t.m0 t.m1 t.m2 t.m3) (quad u.m0 u.m1 u.m2 u.m3)) = true := by rw [decide_eq_true_iff]; omega
              have hr0 : r = false := by
                cases r
                · rfl
                · refine absurd ((HR.out.2 rfl _ hlt).2 (by omega)) ?_
                  rw [← HTK.out, Nat.add_sub_cancel, ← HUK.out]; exact hl0
              subst hr0
              clear hl0
              (refine wp_region_grow (by kernel_rfl) (by kernel_rfl) ?_; (repeat (go_big_quiet_step (first | (go_at_call 93; exact growL (fCheck_c _ t.g1 t.a1 t.n1 t.c1 t.d1 (HT.top.keep (Subtype.property _)) t.g2 t.a2 t.n2 t.c2 t.d2 (HT.low.keep (Subtype.property _)) hs2 hs1 true ⟨fun _ => rfl, fun _ => hF.out⟩)) | (go_at_call 31; exact growL (fSign_c _ _ _ _ _ _ _ _ _ _ _ (HA.keep (Subtype.property _)) hs2 hs1)) | (go_at_call 94; exact growL (falls_c _ _ _ _ _ _ _ _ _))))); refine wpQuiet_nil ?_; intro _ hw0; obtain ⟨nq, hw0⟩ := hw0; subst hw0)
              go_wp2_with fail
              go_ret
              exact ⟨rfl, HB1.trans (nq.2.mono HB1.size)⟩
        · have hF := Lib.hid hF0
          have hr0 : r = false := by
            cases r
            · rfl
            · exact absurd (by have := (HR.out.2 rfl _ hlt).1.1; rw [HTK.out]; exact this) hF0
          subst hr0
          clear hF0
          (refine wp_region_grow (by kernel_rfl) (by kernel_rfl) ?_; (repeat (go_big_quiet_step (first | (go_at_call 93; exact growL (fCheck_c _ t.g1 t.a1 t.n1 t.c1 t.d1 (HT.top.keep (Subtype.property _)) t.g2 t.a2 t.n2 t.c2 t.d2 (HT.low.keep (Subtype.property _)) hs2 hs1 false ⟨fun e => absurd e hF.out, fun e => (by cases e)⟩))))); refine wpQuiet_nil ?_; intro _ hw0; obtain ⟨nq, hw0⟩ := hw0; subst hw0)
          go_wp2_with fail
          go_ret
          exact ⟨rfl, HB1.trans (nq.2.mono HB1.size)⟩
    · obtain rfl : k = n := by omega
      have hr := HR.out.1 he.out
      subst hr
      go_wp2_with fail
      go_ret
      exact ⟨rfl, HBr⟩
end Go.Proofs.YtdamegaedmckbaaGreatDoor
end
section
namespace Go.Proofs.YtdamegaedmckbaaGreatDoor
open Go.RowKit

/-- One term, in a block of its own, as it is read. -/
theorem one_rdp {w : World} {g : Nat} {t : Tm} (hr : RdTm w t) (h0 : w.cell? ⟨g, 0, none⟩ = some (.bool t.g1)) (h1 : w.cell? ⟨g, 1, none⟩ = some (.slice t.a1 t.n1 t.c1)) (h2 : w.cell? ⟨g, 2, none⟩ = some (.bool t.g2)) (h3 : w.cell? ⟨g, 3, none⟩ = some (.slice t.a2 t.n2 t.c2)) (h4 : w.cell? ⟨g, 4, none⟩ = some (.int .u16 t.m0)) (h5 : w.cell? ⟨g, 5, none⟩ = some (.int .u16 t.m1)) (h6 : w.cell? ⟨g, 6, none⟩ = some (.int .u16 t.m2)) (h7 : w.cell? ⟨g, 7, none⟩ = some (.int .u16 t.m3)) :
    RdP w (some ⟨g, 0, none⟩) 1 1 (fun _ => t) := by
  refine ⟨Nat.le_refl _, by omega, by omega, fun _ _ => hr, .inr ⟨g, 0, rfl, fun i hi => ?_⟩⟩
  obtain rfl : i = 0 := by omega
  exact ⟨h0, h1, h2, h3, h4, h5, h6, h7⟩
theorem lst_one (t : Tm) : lst (fun _ => t) 1 = [tmX t] := rfl
/-- The three texts are read as the product. -/
theorem times_read {a b : PT} (ha : FineT a) (hb : FineT b) (hp : 0 < b.2.1) {s : List UInt8} (hs : Sep s) (hl : s.length ≤ 4) : rdText (tx1 a ++ (s ++ tx1 b)) = ([(keyM a.1 b.1, mulC a.2 b.2)], 0) := by
  refine rdText_of ?_ (prod_read ha hb hp hs)
  have h1 := tx1_len ha
  have h2 := tx1_len hb
  simp only [List.length_append]
  omega
set_option maxRecDepth 100000 in
set_option maxHeartbeats 4000000 in
theorem SpellsTimes_c (w : World) (s t : Tm) (hs : RdTm w s) (hs1 : s.n1 ≤ 35184372087808) (hs2 : s.n2 ≤ 35184372087808) (ht : RdTm w t) (ht1 : t.n1 ≤ 35184372087808) (ht2 : t.n2 ≤ 35184372087808) (hT : Tab w) (hV : ErrV w) (h7 : 7 < w.heap.size) :
    Calls Tryz.prog 11 #[s.val, t.val] w (RetTrue w) := by
  have HB := Below.refl w.heap.size w
  have al := fun (W : World) (hW : Below w.heap.size w W) => alive_c W (hT.keep hW) (hV.grown (grown_below hW none) (by simp)) (by have := hW.size; omega)
  have AL := Lib.hid al
  have parse := fun (W : World) (hW : Below w.heap.size w W) (L : List UInt8) (hL : L.length < 1000000000) => parse_c W L hL (hV.grown (grown_below hW none) (by simp)) (by have := hW.size; omega)
  have PARSE := Lib.hid parse
  clear al parse
  go_enter Tryz.func11, Tryz.ntmps11
  go_wp2_with fail
  refine calls_name ?_
  intro w0 hw0
  have B0 : Below w.heap.size w w0 := by rw [hw0]; go_grown
  have PA0 : RdP w0 (some ⟨w.heap.size + 1 + 1, 0, none⟩) 1 1 (fun _ => s) := one_rdp (hs.keep B0) (by rw [hw0]; simp [go_sem]) (by rw [hw0]; simp [go_sem]) (by rw [hw0]; simp [go_sem]) (by rw [hw0]; simp [go_sem]) (by rw [hw0]; simp [go_sem]) (by rw [hw0]; simp [go_sem]) (by rw [hw0]; simp [go_sem]) (by rw [hw0]; simp [go_sem])
  have PB0 : RdP w0 (some ⟨w.heap.size + 1 + 1 + 1, 0, none⟩) 1 1 (fun _ => t) := one_rdp (ht.keep B0) (by rw [hw0]; simp [go_sem]) (by rw [hw0]; simp [go_sem]) (by rw [hw0]; simp [go_sem]) (by rw [hw0]; simp [go_sem]) (by rw [hw0]; simp [go_sem]) (by rw [hw0]; simp [go_sem]) (by rw [hw0]; simp [go_sem]) (by rw [hw0]; simp [go_sem])
  have b0 : w0.cell? ⟨w.heap.size + 1, 0, none⟩ = some (.bool t.g1) := by rw [hw0]; simp [go_sem]
  have b1 : w0.cell? ⟨w.heap.size + 1, 1, none⟩ = some (.slice t.a1 t.n1 t.c1) := by rw [hw0]; simp [go_sem]
  have b2 : w0.cell? ⟨w.heap.size + 1, 2, none⟩ = some (.bool t.g2) := by rw [hw0]; simp [go_sem]
  have b3 : w0.cell? ⟨w.heap.size + 1, 3, none⟩ = some (.slice t.a2 t.n2 t.c2) := by rw [hw0]; simp [go_sem]
  clear hw0
  generalize w.heap.size + 1 + 1 + 1 = GB at *
  generalize w.heap.size + 1 + 1 = GA at *
  generalize hG1 : w.heap.size + 1 = G1 at *
  have HS := Lib.hid (And.intro hs1 hs2)
  have HTT := Lib.hid (And.intro ht1 ht2)
  clear hs1 hs2 ht1 ht2
  have PA := Lib.hid PA0
  have PB := Lib.hid PB0
  clear PA0 PB0
  refine (AL.out w0 B0).mono ?_
  rintro e w1 ⟨rfl, hb1⟩
  have B1 := B0.trans (hb1.mono B0.size)
  have K1 := hb1
  rcases Classical.em (POk (fun _ => s) 1) with hok | hok
  · have HOKS := Lib.hid hok
    clear hok
    go_wp2_with fail
    refine (pCheckB_c w1 _ 1 1 _ (PA.out.keep K1) (fun k hk => HS.out) true ⟨fun _ => rfl, fun _ => HOKS.out⟩).mono ?_
    rintro e w2 ⟨rfl, hb2⟩
    have B2 := B1.trans (hb2.mono B1.size)
    have K2 := K1.trans (hb2.mono K1.size)
    rcases Classical.em (POk (fun _ => t) 1) with hok | hok
    · have HOKT := Lib.hid hok
      clear hok
      go_wp2_with fail
      refine (pCheckB_c w2 _ 1 1 _ (PB.out.keep K2) (fun k hk => HTT.out) true ⟨fun _ => rfl, fun _ => HOKT.out⟩).mono ?_
      rintro e w3 ⟨rfl, hb3⟩
      have B3 := B2.trans (hb3.mono B2.size)
      have K3 := K2.trans (hb3.mono K2.size)
      rcases Classical.em (FineP (fun _ => s) 1) with hf | hf
      · have HFS := Lib.hid hf
        clear hf
        go_wp2_with fail
        refine (fine_c w3 _ 1 1 _ (PA.out.keep K3) true ⟨fun _ => rfl, fun _ => HFS.out⟩).mono ?_
        rintro e w4 ⟨rfl, hb4⟩
        have B4 := B3.trans (hb4.mono B3.size)
        have K4 := K3.trans (hb4.mono K3.size)
        rcases Classical.em (FineP (fun _ => t) 1) with hf | hf
        · have HFT := Lib.hid hf
          clear hf
          go_wp2_with fail
          refine (fine_c w4 _ 1 1 _ (PB.out.keep K4) true ⟨fun _ => rfl, fun _ => HFT.out⟩).mono ?_
          rintro e w5 ⟨rfl, hb5⟩
          have B5 := B4.trans (hb5.mono B4.size)
          have K5 := K4.trans (hb5.mono K4.size)
          have ft : t.n1 ≤ 20 ∧ t.n2 ≤ 20 ∧ t.m0 ≤ 1000 ∧ t.m1 ≤ 1000 ∧ t.m2 ≤ 1000 ∧ t.m3 ≤ 1000 := HFT.out 0 (by omega)
          have fs : s.n1 ≤ 20 ∧ s.n2 ≤ 20 ∧ s.m0 ≤ 1000 ∧ s.m1 ≤ 1000 ∧ s.m2 ≤ 1000 ∧ s.m3 ≤ 1000 := HFS.out 0 (by omega)
          have tok : TOk t := (HOKT.out 0 (by omega)).1
          have tis := tmX_is tok
          have tcw := tmX_cw tok
          have hfr := (tis.frac ht tcw.1).keep B5
          have y1 : t.n2 < 35184372088829 := by have := ft.2.1; omega
          have y2 : t.n1 < 35184372088829 := by have := ft.1; omega
          replace b0 := cell_keep K5 b0
          replace b1 := cell_keep K5 b1
          replace b2 := cell_keep K5 b2
          replace b3 := cell_keep K5 b3
          have FSL : FewL 10000 [tmX s] := arg_few PA.out HOKS.out (n := 1) (K := 10000) (fun i hi => ⟨by have := fs.1; omega, by have := fs.2.1; omega⟩)
          have FTL : FewL 10000 [tmX t] := arg_few PB.out HOKT.out (n := 1) (K := 10000) (fun i hi => ⟨by have := ft.1; omega, by have := ft.2.1; omega⟩)
          clear ft fs tis tok
          go_wp2_with fail
          refine (fSign_c w5 t.g1 t.a1 t.n1 t.c1 (tmX t).2.1 t.g2 t.a2 t.n2 t.c2 (tmX t).2.2 hfr y1 y2).mono ?_
          rintro e w6 ⟨rfl, hb6⟩
          have B6 := B5.trans (hb6.mono B5.size)
          have K6 := K5.trans (hb6.mono K5.size)
          by_cases hsg : (tmX t).2.1 < 0
          · have hcm : cmpI (tmX t).2.1 0 = -1 := cmpI_lt hsg
            rw [hcm]
            clear hcm
            go_wp2_with fail
            refine (AL.out w6 B6).mono ?_
            rintro e wz ⟨rfl, hbz⟩
            go_wp2_with fail
            go_ret
            exact ⟨rfl, B6.trans (hbz.mono B6.size)⟩
          · have hpos : 0 < (tmX t).2.1 := by have := tcw.2; omega
            have hcm : cmpI (tmX t).2.1 0 = 1 := cmpI_gt hpos
            rw [hcm]
            have FX := arg_fine PA.out HOKS.out HFS.out (tmX s) (by rw [lst_one]; simp)
            have FY := arg_fine PB.out HOKT.out HFT.out (tmX t) (by rw [lst_one]; simp)
            have PWX : PW [tmX s] := by have h := arg_pw PA.out HOKS.out; rw [lst_one] at h; exact h
            have PWY : PW [tmX t] := by have h := arg_pw PB.out HOKT.out; rw [lst_one] at h; exact h
            have AX : PolyAt w0 0 (some ⟨GA, 0, none⟩) 1 1 [tmX s] := by have h := arg_at PA.out HOKS.out (fun h => by cases h); rw [lst_one] at h; exact h
            have AY : PolyAt w0 0 (some ⟨GB, 0, none⟩) 1 1 [tmX t] := by have h := arg_at PB.out HOKT.out (fun h => by cases h); rw [lst_one] at h; exact h
            generalize tmX s = x at *
            generalize tmX t = y at *
            have hx1 := tx1_len FX
            have hy1 := tx1_len FY
            have hpw : ∀ i, i < 4 → expo x.1 i + expo y.1 i < 65536 := fun i hi => by have := FX.pow i hi; have := FY.pow i hi; omega
            have RD1 := Lib.hid (times_read FX FY hpos (s := [42]) (.inr ⟨[], [], rfl, rfl, rfl⟩) (by simp))
            have RD2 := Lib.hid (times_read FX FY hpos (s := [32]) (.inl ⟨rfl, by simp⟩) (by simp))
            have RD3 := Lib.hid (times_read FX FY hpos (s := [9, 32, 42, 32]) (.inr ⟨[9, 32], [32], rfl, rfl, rfl⟩) (by simp))
            have TX := fun (W : World) (h : Below w.heap.size w W) (k : Below w0.heap.size w0 W) => text_at W 0 _ 1 1 [x] (AX.keep k) PWX FSL (by omega) (hT.keep h)
            have TY := fun (W : World) (h : Below w.heap.size w W) (k : Below w0.heap.size w0 W) => text_at W 0 _ 1 1 [y] (AY.keep k) PWY FTL (by omega) (hT.keep h)
            have MU := fun (W : World) (k : Below w0.heap.size w0 W) => mul_one_c W _ 1 _ 1 x y (AX.keep k) (AY.keep k) PWX PWY FSL FTL hpw
            obtain ⟨X1, hX1⟩ : ∃ X1, X1 = tx1 x := ⟨_, rfl⟩
            obtain ⟨X2, hX2⟩ : ∃ X2, X2 = tx1 y := ⟨_, rfl⟩
            rw [← hX1] at hx1 RD1 RD2 RD3
            rw [← hX2] at hy1 RD1 RD2 RD3
            have HX1 := Lib.hid hX1
            have HX2 := Lib.hid hX2
            generalize hZ : [(keyM x.1 y.1, mulC x.2 y.2)] = Z at *
            have c1a : (⟨X1.toArray⟩ : ByteArray).size + (⟨#[42]⟩ : ByteArray).size ≤ 9223372036854775807 := by rw [ba_size]; show _ + 1 ≤ _; omega
            have c1b : (⟨X1.toArray⟩ : ByteArray) ++ (⟨#[42]⟩ : ByteArray) = ⟨(X1 ++ [42]).toArray⟩ := ba_app X1 [42]
            have c1c : (⟨(X1 ++ [42]).toArray⟩ : ByteArray).size + (⟨X2.toArray⟩ : ByteArray).size ≤ 9223372036854775807 := by rw [ba_size, ba_size, List.length_append]; show _ + 1 + _ ≤ _; omega
            have c1d : (⟨(X1 ++ [42]).toArray⟩ : ByteArray) ++ (⟨X2.toArray⟩ : ByteArray) = ⟨(X1 ++ ([42] ++ X2)).toArray⟩ := by rw [ba_app, List.append_assoc]
            have c2a : (⟨X1.toArray⟩ : ByteArray).size + (⟨#[32]⟩ : ByteArray).size ≤ 9223372036854775807 := by rw [ba_size]; show _ + 1 ≤ _; omega
            have c2b : (⟨X1.toArray⟩ : ByteArray) ++ (⟨#[32]⟩ : ByteArray) = ⟨(X1 ++ [32]).toArray⟩ := ba_app X1 [32]
            have c2c : (⟨(X1 ++ [32]).toArray⟩ : ByteArray).size + (⟨X2.toArray⟩ : ByteArray).size ≤ 9223372036854775807 := by rw [ba_size, ba_size, List.length_append]; show _ + 1 + _ ≤ _; omega
            have c2d : (⟨(X1 ++ [32]).toArray⟩ : ByteArray) ++ (⟨X2.toArray⟩ : ByteArray) = ⟨(X1 ++ ([32] ++ X2)).toArray⟩ := by rw [ba_app, List.append_assoc]
            have c3a : (⟨X1.toArray⟩ : ByteArray).size + (⟨#[9, 32, 42, 32]⟩ : ByteArray).size ≤ 9223372036854775807 := by rw [ba_size]; show _ + 4 ≤ _; omega
            have c3b : (⟨X1.toArray⟩ : ByteArray) ++ (⟨#[9, 32, 42, 32]⟩ : ByteArray) = ⟨(X1 ++ [9, 32, 42, 32]).toArray⟩ := ba_app X1 [9, 32, 42, 32]
            have c3c : (⟨(X1 ++ [9, 32, 42, 32]).toArray⟩ : ByteArray).size + (⟨X2.toArray⟩ : ByteArray).size ≤ 9223372036854775807 := by rw [ba_size, ba_size, List.length_append]; show _ + 4 + _ ≤ _; omega
            have c3d : (⟨(X1 ++ [9, 32, 42, 32]).toArray⟩ : ByteArray) ++ (⟨X2.toArray⟩ : ByteArray) = ⟨(X1 ++ ([9, 32, 42, 32] ++ X2)).toArray⟩ := by rw [ba_app, List.append_assoc]
            clear hX1 hX2 hcm hsg hfr tcw b0 b1 b2 b3 y1 y2 HFS HFT HOKS HOKT PA PB HS HTT FX FY PWX PWY AX AY hpw hpos hb1 hb2 hb3 hb4 hb5 hb6 hZ FSL FTL
            go_wp2_with fail
            refine (TX w6 B6 K6).mono ?_
            rintro e w7 ⟨rfl, hb7⟩
            have B7 := B6.trans (hb7.mono B6.size)
            have K7 := K6.trans (hb7.mono K6.size)
            rw [show txL [x] = X1 from HX1.out.symm]
            go_wp2_with fail
            refine (TY w7 B7 K7).mono ?_
            rintro e w8 ⟨rfl, hb8⟩
            have B8 := B7.trans (hb8.mono B7.size)
            have K8 := K7.trans (hb8.mono K7.size)
            rw [show txL [y] = X2 from HX2.out.symm]
            go_wp2_with fail
            refine (MU w8 K8).mono ?_
            rintro e w9 ⟨a9, n9, c9, rfl, P9, hb9⟩
            have B9 := B8.trans (hb9.mono B8.size)
            clear TX TY MU
            have Q1 := PARSE.out w9 B9 (X1 ++ ([42] ++ X2)) (by simp only [List.length_append, List.length_cons, List.length_nil]; omega)
            rw [RD1.out] at Q1
            go_wp2_with fail
            refine Q1.mono ?_
            rintro e w10 ⟨a10, n10, c10, rfl, P10, hb10⟩
            have B10 := B9.trans (hb10.mono B9.size)
            have Q2 := PARSE.out w10 B10 (X1 ++ ([32] ++ X2)) (by simp only [List.length_append, List.length_cons, List.length_nil]; omega)
            rw [RD2.out] at Q2
            clear Q1
            go_wp2_with fail
            refine Q2.mono ?_
            rintro e w11 ⟨a11, n11, c11, rfl, P11, hb11⟩
            have B11 := B10.trans (hb11.mono B10.size)
            have Q3 := PARSE.out w11 B11 (X1 ++ ([9, 32, 42, 32] ++ X2)) (by simp only [List.length_append, List.length_cons, List.length_nil]; omega)
            rw [RD3.out] at Q3
            clear Q2
            go_wp2_with fail
            refine Q3.mono ?_
            rintro e w12 ⟨a12, n12, c12, rfl, P12, hb12⟩
            have B12 := B11.trans (hb12.mono B11.size)
            have W9 := ((P9.keep hb10).keep hb11).keep hb12
            have W10 := (P10.keep hb11).keep hb12
            have W11 := P11.keep hb12
            clear Q3
            go_wp2_with fail
            refine (same_c w12 _ a10 n10 c10 _ W10 _ a9 n9 c9 W9).mono ?_
            rintro e w13 ⟨rfl, hb13⟩
            have B13 := B12.trans (hb13.mono B12.size)
            go_wp2_with fail
            refine (same_c w13 _ a11 n11 c11 _ (W11.keep hb13) _ a9 n9 c9 (W9.keep hb13)).mono ?_
            rintro e w14 ⟨rfl, hb14⟩
            have B14 := B13.trans (hb14.mono B13.size)
            go_wp2_with fail
            refine (same_c w14 _ a12 n12 c12 _ ((P12.keep hb13).keep hb14) _ a9 n9 c9 ((W9.keep hb13).keep hb14)).mono ?_
            rintro e w15 ⟨rfl, hb15⟩
            go_wp2_with fail
            go_ret
            exact ⟨by simp, B14.trans (hb15.mono B14.size)⟩
        · have HFT := Lib.hid hf
          clear hf
          go_wp2_with fail
          refine (fine_c w4 _ 1 1 _ (PB.out.keep K4) false ⟨fun h => absurd h HFT.out, fun h => by cases h⟩).mono ?_
          rintro e w5 ⟨rfl, hb5⟩
          have B5 := B4.trans (hb5.mono B4.size)
          go_wp2_with fail
          refine (AL.out w5 B5).mono ?_
          rintro e wz ⟨rfl, hbz⟩
          go_wp2_with fail
          go_ret
          exact ⟨rfl, B5.trans (hbz.mono B5.size)⟩
      · have HFS := Lib.hid hf
        clear hf
        go_wp2_with fail
        refine (fine_c w3 _ 1 1 _ (PA.out.keep K3) false ⟨fun h => absurd h HFS.out, fun h => by cases h⟩).mono ?_
        rintro e w4 ⟨rfl, hb4⟩
        have B4 := B3.trans (hb4.mono B3.size)
        go_wp2_with fail
        refine (AL.out w4 B4).mono ?_
        rintro e wz ⟨rfl, hbz⟩
        go_wp2_with fail
        go_ret
        exact ⟨rfl, B4.trans (hbz.mono B4.size)⟩
    · have HOKT := Lib.hid hok
      clear hok
      go_wp2_with fail
      refine (pCheckB_c w2 _ 1 1 _ (PB.out.keep K2) (fun k hk => HTT.out) false ⟨fun h => absurd h HOKT.out, fun h => by cases h⟩).mono ?_
      rintro e w3 ⟨rfl, hb3⟩
      have B3 := B2.trans (hb3.mono B2.size)
      go_wp2_with fail
      refine (AL.out w3 B3).mono ?_
      rintro e wz ⟨rfl, hbz⟩
      go_wp2_with fail
      go_ret
      exact ⟨rfl, B3.trans (hbz.mono B3.size)⟩
  · have HOKS := Lib.hid hok
    clear hok
    go_wp2_with fail
    refine (pCheckB_c w1 _ 1 1 _ (PA.out.keep K1) (fun k hk => HS.out) false ⟨fun h => absurd h HOKS.out, fun h => by cases h⟩).mono ?_
    rintro e w2 ⟨rfl, hb2⟩
    have B2 := B1.trans (hb2.mono B1.size)
    go_wp2_with fail
    refine (AL.out w2 B2).mono ?_
    rintro e wz ⟨rfl, hbz⟩
    go_wp2_with fail
    go_ret
    exact ⟨rfl, B2.trans (hbz.mono B2.size)⟩
end Go.Proofs.YtdamegaedmckbaaGreatDoor
end
section
namespace Go.Proofs.YtdamegaedmckbaaGreatDoor
open Go.ChangeShapes Go.WideShapes Go.RowKit Go.Deep
variable {H : Type} {enc : TypeId × Value → H} {W : World} {sp : Nat → Bool} {held : Bool}

theorem open_limbsB {fuel : Nat} {cs : List Value} {x : DataW H × List MemPlace} (h : DataW.trod enc Tryz.prog W 0 (fun _ => true) held fuel 57 cs = some x) (hw : Fits 57 x.1) :
    ∃ a n c d, cs = [.slice a n c] ∧ RdL W a n c d ∧ n ≤ 35184372087808 := by
  rcases open_ints (k := .u32) Tryz.underlying57 (by kernel_rfl) cellsOf112 h with ⟨rfl, _⟩ | ⟨a, len, cap, zs, rfl, _, hl, hm, hzl, rfl, hcell, hwf⟩
  · exact ⟨none, 0, 0, [], rfl, ⟨rfl, Nat.le_refl _, by omega, by omega, fun i => by simp [lim], .inl rfl⟩, by omega⟩
  · simp only [if_true] at hzl
    have hsz := fits_size Tryz.underlying57 hw
    rw [bytesOf112] at hsz
    have hcl : cap * 4 ≤ 140737488351232 := by
      simp only [lits, List.length_map, List.length_take, List.length_drop] at hsz
      omega
    have hr : ∀ z ∈ zs, 0 ≤ z ∧ z < 4294967296 := fun z hz => by
      have := hwf z hz
      simp [Lit.wf, IntKind.min, IntKind.max, IntKind.signed, IntKind.bits] at this
      omega
    have hgd : ∀ i, 0 ≤ zs.getD i 0 ∧ zs.getD i 0 < 4294967296 := fun i => by
      by_cases hi : i < zs.length
      · simp only [List.getD, List.getElem?_eq_getElem hi, Option.getD_some]; exact hr _ (List.getElem_mem hi)
      · simp [List.getD, List.getElem?_eq_none (Nat.le_of_not_lt hi)]
    have hlim : ∀ i, i < len → lim ((zs.take len).map Int.toNat) i = zs.getD i 0 := fun i hi => by
      have h1 := hgd i
      simp only [lim, List.getD, List.getElem?_map, List.getElem?_take_of_lt hi, List.getElem?_eq_getElem (show i < zs.length by omega), Option.map_some, Option.getD_some] at h1 ⊢
      omega
    refine ⟨some a, len, cap, (zs.take len).map Int.toNat, rfl, ⟨?_, hl, by omega, by unfold maxLen at hm; omega, fun i => ?_, ?_⟩, by omega⟩
    · rw [List.length_map, List.length_take]; omega
    · by_cases hi : i < len
      · rw [hlim i hi]; exact hgd i
      · rw [show lim ((zs.take len).map Int.toNat) i = 0 by simp only [lim, List.getD]; rw [List.getElem?_eq_none (by rw [List.length_map, List.length_take]; omega)]; rfl]; omega
    · rcases Nat.eq_zero_or_pos len with h0 | h0
      · exact .inl h0
      · right
        have h1 := hcell 0 (by omega)
        rw [show a.add 0 = a from rfl] at h1
        obtain ⟨b, o, rfl⟩ := addr_none h1
        refine ⟨b, o, rfl, fun i hi => ?_⟩
        have h2 := hcell i (by omega)
        have hadd : (⟨b, o, none⟩ : Addr).add i = ⟨b, o + i, none⟩ := by unfold Addr.add; split <;> simp_all
        rw [hadd] at h2
        rw [h2, hlim i hi]
set_option maxRecDepth 100000 in
theorem open_numB {fuel : Nat} {c0 c1 : Value} {x : DataW H × List MemPlace} (h : DataW.trod enc Tryz.prog W 0 (fun _ => true) held fuel 59 [c0, c1] = some x) (hw : Fits 59 x.1) :
    ∃ g a n c d, c0 = .bool g ∧ c1 = .slice a n c ∧ RdL W a n c d ∧ n ≤ 35184372087808 := by
  obtain ⟨xs, n, _, rfl, _, hlen, hf⟩ := DataW.trod_struct Tryz.underlying59 h
  match xs, hlen with
  | [y0, y1], _ =>
    have h0 := hf 0 _ rfl
    have h1 := hf 1 _ rfl
    have f1 := fits_part Tryz.underlying59 hw (j := 1) (d := y1.1) rfl rfl
    obtain ⟨g, hg, _⟩ := DataW.trod_bool (P := Tryz.prog) (t := 4) (by kernel_rfl) (show DataW.trod enc Tryz.prog W 0 (fun _ => true) held n 4 [c0] = some y0 from h0)
    obtain ⟨a, m, c, d, hc, hr, hb⟩ := open_limbsB (show DataW.trod enc Tryz.prog W 0 (fun _ => true) held n 57 [c1] = some y1 from h1) f1
    simp only [List.cons.injEq, and_true] at hg hc
    exact ⟨g, a, m, c, d, hg, hc, hr, hb⟩
set_option maxRecDepth 100000 in
theorem open_termB {fuel : Nat} {cs : List Value} {x : DataW H × List MemPlace} (h : DataW.trod enc Tryz.prog W 0 (fun _ => true) held fuel 68 cs = some x) (hw : Fits 68 x.1) :
    ∃ t : Tm, cs = [.bool t.g1, .slice t.a1 t.n1 t.c1, .bool t.g2, .slice t.a2 t.n2 t.c2, .int .u16 t.m0, .int .u16 t.m1, .int .u16 t.m2, .int .u16 t.m3] ∧ RdTm W t ∧ t.n1 ≤ 35184372087808 ∧ t.n2 ≤ 35184372087808 := by
  obtain ⟨xs, n, _, rfl, hcl, hlen, hf⟩ := DataW.trod_struct Tryz.underlying68 h
  rw [cellsOf68] at hcl
  match cs, hcl, xs, hlen with
  | [c0, c1, c2, c3, c4, c5, c6, c7], _, [y0, y1], _ =>
    have h0 := hf 0 _ rfl
    have h1 := hf 1 _ rfl
    have f0 := fits_part Tryz.underlying68 hw (j := 0) (d := y0.1) rfl rfl
    replace h0 : DataW.trod enc Tryz.prog W 0 (fun _ => true) held n 64 [c0, c1, c2, c3] = some y0 := h0
    replace h1 : DataW.trod enc Tryz.prog W 0 (fun _ => true) held n 66 [c4, c5, c6, c7] = some y1 := h1
    obtain ⟨ys, n', _, rfl, _, hylen, hg⟩ := DataW.trod_struct Tryz.underlying64 h0
    match ys, hylen with
    | [z0, z1], _ =>
      have g0 := hg 0 _ rfl
      have g1 := hg 1 _ rfl
      have e0 := fits_part Tryz.underlying64 f0 (j := 0) (d := z0.1) rfl rfl
      have e1 := fits_part Tryz.underlying64 f0 (j := 1) (d := z1.1) rfl rfl
      replace g0 : DataW.trod enc Tryz.prog W 0 (fun _ => true) held n' 59 [c0, c1] = some z0 := g0
      replace g1 : DataW.trod enc Tryz.prog W 0 (fun _ => true) held n' 59 [c2, c3] = some z1 := g1
      obtain ⟨q1, a1, n1, k1, d1, rfl, rfl, r1, w1⟩ := open_numB g0 e0
      obtain ⟨q2, a2, n2, k2, d2, rfl, rfl, r2, w2⟩ := open_numB g1 e1
      obtain ⟨u0, u1, u2, u3, n3, _, t0, t1, t2, t3⟩ := trod_array4 Tryz.underlying66 c55 h1
      obtain ⟨m0, rfl, b0⟩ := open_u16 t0
      obtain ⟨m1, rfl, b1⟩ := open_u16 t1
      obtain ⟨m2, rfl, b2⟩ := open_u16 t2
      obtain ⟨m3, rfl, b3⟩ := open_u16 t3
      exact ⟨⟨q1, a1, n1, k1, d1, q2, a2, n2, k2, d2, m0, m1, m2, m3⟩, rfl, ⟨r1, r2, b0, b1, b2, b3⟩, w1, w2⟩
end Go.Proofs.YtdamegaedmckbaaGreatDoor
end
