/- Package limbs: carry, at each of its closures. No condition. Package limbs: part, Add, and its closure. No condition. -/
import Derived.Test.YtdamegaedmckbaaGreatDoorQT1
import Derived.Test.YtdamegaedmckbaaGreatDoorQTZ
set_option linter.unusedSimpArgs false
set_option linter.unusedVariables false
set_option maxRecDepth 100000
set_option maxHeartbeats 4000000
section
namespace Go.Proofs.YtdamegaedmckbaaGreatDoor
open Go.RowKit
def RetCarry (w : World) (m : Nat) (D : Nat → Int) (e : Ending) (w' : World) : Prop :=
 ∃ a, e = .returned (.slice a m m) ∧ RdL w' a m m (fxI m (sumB D m)) ∧ Fresh w.heap.size w' a m ∧ Below w.heap.size w w'
theorem carry_272 (w : World) (m : Nat) (c1 c2 c3 : Value) (D : Nat → Int) (hm : m ≤ 35184372088832)
  (hD : ∀ i, i < m → -4000000000000000000 ≤ D i ∧ D i ≤ 4000000000000000000)
  (hcall : ∀ (i : Nat) (W : World), i < m → Below w.heap.size w W → Calls Tryz.prog 272 #[.int .i64 i, c1, c2, c3] W fun e W' => e = .returned (.int .i64 (D i)) ∧ Below W.heap.size W W') :
  Calls Tryz.prog 271 #[.int .i64 m, .func (.func 272) #[] #[c1, c2, c3]] w (RetCarry w m D) := by
 exact qAc
theorem carry_328 (w : World) (m : Nat) (c1 c2 : Value) (D : Nat → Int) (hm : m ≤ 35184372088832)
  (hD : ∀ i, i < m → -4000000000000000000 ≤ D i ∧ D i ≤ 4000000000000000000)
  (hcall : ∀ (i : Nat) (W : World), i < m → Below w.heap.size w W → Calls Tryz.prog 328 #[.int .i64 i, c1, c2] W fun e W' => e = .returned (.int .i64 (D i)) ∧ Below W.heap.size W W') :
  Calls Tryz.prog 271 #[.int .i64 m, .func (.func 328) #[] #[c1, c2]] w (RetCarry w m D) := by
 exact qAc
theorem carry_299 (w : World) (m : Nat) (c1 c2 c3 : Value) (D : Nat → Int) (hm : m ≤ 35184372088832)
  (hD : ∀ i, i < m → -4000000000000000000 ≤ D i ∧ D i ≤ 4000000000000000000)
  (hcall : ∀ (i : Nat) (W : World), i < m → Below w.heap.size w W → Calls Tryz.prog 299 #[.int .i64 i, c1, c2, c3] W fun e W' => e = .returned (.int .i64 (D i)) ∧ Below W.heap.size W W') :
  Calls Tryz.prog 271 #[.int .i64 m, .func (.func 299) #[] #[c1, c2, c3]] w (RetCarry w m D) := by
 exact qAc
end Go.Proofs.YtdamegaedmckbaaGreatDoor
end
section
namespace Go.Proofs.YtdamegaedmckbaaGreatDoor
open Go.RowKit
theorem lim_out {d : List Nat} {i : Nat} (h : d.length ≤ i) : lim d i = 0 := by simp [lim, List.getElem?_eq_none h]
theorem part_c (w : World) (a : Option Addr) (n c : Nat) (d : List Nat) (i : Nat) (hd : RdL w a n c d) :
  Calls Tryz.prog 273 #[.slice a n c, .int .i64 i] w fun e w' => e = .returned (.int .i64 (lim d i)) ∧ w = w' := by
 by_cases h : i < n
 ·obtain ⟨b, o, rfl, c1⟩ := hd.at' h
  have hn := hd.few
  have hs := hd.small i
  go_enter Tryz.func273, Tryz.ntmps273
  go_wp2
  go_ret
  exact ⟨rfl, rfl⟩
 ·have e : lim d i = 0 := lim_out (by rw [hd.len]; omega)
  rw [e]
  have h' : n ≤ i := by omega
  go_enter Tryz.func273, Tryz.ntmps273
  go_wp2
  go_ret
  exact ⟨rfl, rfl⟩
theorem Add1_pos (w : World) (A S C : Nat) (a : Option Addr) (n c : Nat) (d : List Nat) (a' : Option Addr) (n' c' : Nat) (d' : List Nat) (i : Nat) (hd : RdL w a n c d) (hd' : RdL w a' n' c' d')
  (h1 : w.cell? ⟨A, 1, none⟩ = some (.slice a n c)) (h2 : w.cell? ⟨S, 0, none⟩ = some (.int .i64 1)) (h3 : w.cell? ⟨C, 1, none⟩ = some (.slice a' n' c')) :
  Calls Tryz.prog 272 #[.int .i64 i, .pointer (some ⟨A, 0, none⟩), .pointer (some ⟨S, 0, none⟩), .pointer (some ⟨C, 0, none⟩)] w fun e w' => e = .returned (.int .i64 (lim d i + lim d' i)) ∧ Below w.heap.size w w' := by
 have hs := hd.small i
 have hs' := hd'.small i
 go_enter Tryz.func272, Tryz.ntmps272
 go_wp2
 go_quiet ((first | (go_at_call 273; first | exact quietL (part_c _ _ _ _ d i (hd.keep (below_drewN _ (Below.refl _ _)))) | exact quietL (part_c _ _ _ _ d' i (hd'.keep (below_drewN _ (Below.refl _ _)))) | exact quietAL (part_c _ _ _ _ d i (hd.keep (below_drewN _ (Below.refl _ _)))) | exact quietAL (part_c _ _ _ _ d' i (hd'.keep (below_drewN _ (Below.refl _ _)))))))
 go_wp2
 go_ret
 exact ⟨rfl, below_drewN _ (Below.refl _ _)⟩
theorem Add1_neg (w : World) (A S C : Nat) (a : Option Addr) (n c : Nat) (d : List Nat) (a' : Option Addr) (n' c' : Nat) (d' : List Nat) (i : Nat) (hd : RdL w a n c d) (hd' : RdL w a' n' c' d')
  (h1 : w.cell? ⟨A, 1, none⟩ = some (.slice a n c)) (h2 : w.cell? ⟨S, 0, none⟩ = some (.int .i64 (-1))) (h3 : w.cell? ⟨C, 1, none⟩ = some (.slice a' n' c')) :
  Calls Tryz.prog 272 #[.int .i64 i, .pointer (some ⟨A, 0, none⟩), .pointer (some ⟨S, 0, none⟩), .pointer (some ⟨C, 0, none⟩)] w fun e w' => e = .returned (.int .i64 (lim d i - lim d' i)) ∧ Below w.heap.size w w' := by
 have hs := hd.small i
 have hs' := hd'.small i
 go_enter Tryz.func272, Tryz.ntmps272
 go_wp2
 go_quiet ((first | (go_at_call 273; first | exact quietL (part_c _ _ _ _ d i (hd.keep (below_drewN _ (Below.refl _ _)))) | exact quietL (part_c _ _ _ _ d' i (hd'.keep (below_drewN _ (Below.refl _ _)))) | exact quietAL (part_c _ _ _ _ d i (hd.keep (below_drewN _ (Below.refl _ _)))) | exact quietAL (part_c _ _ _ _ d' i (hd'.keep (below_drewN _ (Below.refl _ _)))))))
 go_wp2
 go_ret
 exact ⟨by simp [Int.sub_eq_add_neg], below_drewN _ (Below.refl _ _)⟩
theorem add_sum (d d' : List Nat) (m : Nat) (h : d.length < m) (h' : d'.length < m) : sumB (fun i => lim d i + lim d' i) m = ((val d + val d' : Nat) : Int) := by
 rw [sumB_add (fun i => lim d i) (fun i => lim d' i), show sumB (fun i => lim d i) m = val d from sumB_list d m qB, show sumB (fun i => lim d' i) m = val d' from sumB_list d' m qB]
 omega
theorem sub_sum (d d' : List Nat) (m : Nat) (h : d.length < m) (h' : d'.length < m) (hv : val d' ≤ val d) : sumB (fun i => lim d i - lim d' i) m = ((val d - val d' : Nat) : Int) := by
 have e : sumB (fun i => lim d i - lim d' i) m = sumB (fun i => lim d i + (fun i => (-1) * lim d' i) i) m := sumB_congr (fun i _ => by show lim d i - lim d' i = lim d i + (-1) * lim d' i; omega)
 rw [e, sumB_add (fun i => lim d i) (fun i => (-1) * lim d' i), sumB_mul (fun i => lim d' i), show sumB (fun i => lim d i) m = val d from sumB_list d m qB, show sumB (fun i => lim d' i) m = val d' from sumB_list d' m qB]
 omega
theorem val_fxI (m N : Nat) (h : N < 1000000000 ^ m) : val (fxI m (N : Int)) = N := by rw [fxI_nat, val_fx m N h]
theorem carry_272' (w : World) (M : Int) (m : Nat) (hM : M = m) (c1 c2 c3 : Value) (D : Nat → Int) (hm : m ≤ 35184372088832)
  (hD : ∀ i, i < m → -4000000000000000000 ≤ D i ∧ D i ≤ 4000000000000000000)
  (hcall : ∀ (i : Nat) (W : World), i < m → Below w.heap.size w W → Calls Tryz.prog 272 #[.int .i64 i, c1, c2, c3] W fun e W' => e = .returned (.int .i64 (D i)) ∧ Below W.heap.size W W') :
  Calls Tryz.prog 271 #[.int .i64 M, .func (.func 272) #[] #[c1, c2, c3]] w (RetCarry w m D) := by
 subst hM
 exact carry_272 w m c1 c2 c3 D hm hD hcall
end Go.Proofs.YtdamegaedmckbaaGreatDoor
end
