/- Package limbs: carry, at each of its closures. -/
import Derived.Test.YtdamegaedmckbaaGreatDoorQP1
set_option linter.unusedSimpArgs false
set_option linter.unusedVariables false
set_option maxRecDepth 100000
set_option maxHeartbeats 4000000
section
namespace Go.Proofs.YtdamegaedmckbaaGreatDoor
open Go.RowKit
def H9 (w : World) (m : Nat) (D : Nat → Int) (e : Ending) (w' : World) : Prop :=
 ∃ a, e = .returned (.slice a m m) ∧ RdL w' a m m (fxI m (Cl D m)) ∧ Av w.heap.size w' a m ∧ Below w.heap.size w w'
theorem Xo (w : World) (m : Nat) (c1 c2 c3 : Value) (D : Nat → Int) (hm : m ≤ 35184372088832)
  (hD : ∀ i, i < m → -4000000000000000000 ≤ D i ∧ D i ≤ 4000000000000000000)
  (hcall : ∀ (i : Nat) (W : World), i < m → Below w.heap.size w W → Calls Tryz.prog 272 #[.int .i64 i, c1, c2, c3] W fun e W' => e = .returned (.int .i64 (D i)) ∧ Below W.heap.size W W') :
  Calls Tryz.prog 271 #[.int .i64 m, .func (.func 272) #[] #[c1, c2, c3]] w (H9 w m D) := by
 exact qAc
theorem Wy (w : World) (m : Nat) (c1 c2 : Value) (D : Nat → Int) (hm : m ≤ 35184372088832)
  (hD : ∀ i, i < m → -4000000000000000000 ≤ D i ∧ D i ≤ 4000000000000000000)
  (hcall : ∀ (i : Nat) (W : World), i < m → Below w.heap.size w W → Calls Tryz.prog 328 #[.int .i64 i, c1, c2] W fun e W' => e = .returned (.int .i64 (D i)) ∧ Below W.heap.size W W') :
  Calls Tryz.prog 271 #[.int .i64 m, .func (.func 328) #[] #[c1, c2]] w (H9 w m D) := by
 exact qAc
theorem Xd (w : World) (m : Nat) (c1 c2 c3 : Value) (D : Nat → Int) (hm : m ≤ 35184372088832)
  (hD : ∀ i, i < m → -4000000000000000000 ≤ D i ∧ D i ≤ 4000000000000000000)
  (hcall : ∀ (i : Nat) (W : World), i < m → Below w.heap.size w W → Calls Tryz.prog 299 #[.int .i64 i, c1, c2, c3] W fun e W' => e = .returned (.int .i64 (D i)) ∧ Below W.heap.size W W') :
  Calls Tryz.prog 271 #[.int .i64 m, .func (.func 299) #[] #[c1, c2, c3]] w (H9 w m D) := by
 exact qAc
theorem J1 {d : List Nat} {i : Nat} (h : d.length ≤ i) : lim d i = 0 := by simp [lim, List.getElem?_eq_none h]
theorem Gu (w : World) (a : Option Addr) (n c : Nat) (d : List Nat) (i : Nat) (hd : RdL w a n c d) :
  Calls Tryz.prog 273 #[.slice a n c, .int .i64 i] w fun e w' => e = .returned (.int .i64 (lim d i)) ∧ w = w' := by
 by_cases h : i < n
 ·obtain ⟨b, o, rfl, c1⟩ := hd.at' h
  have hn := hd.few
  have hs := hd.small i
  go_enter Tryz.func273, Tryz.ntmps273
  go_wp2
  go_ret
  exact ⟨rfl, rfl⟩
 ·have e : lim d i = 0 := J1 (by rw [hd.len]; omega)
  rw [e]
  have h' : n ≤ i := by omega
  go_enter Tryz.func273, Tryz.ntmps273
  go_wp2
  go_ret
  exact ⟨rfl, rfl⟩
theorem St (w : World) (A S C : Nat) (a : Option Addr) (n c : Nat) (d : List Nat) (a' : Option Addr) (n' c' : Nat) (d' : List Nat) (i : Nat) (hd : RdL w a n c d) (hd' : RdL w a' n' c' d')
  (h1 : w.cell? ⟨A, 1, none⟩ = some (.slice a n c)) (h2 : w.cell? ⟨S, 0, none⟩ = some (.int .i64 1)) (h3 : w.cell? ⟨C, 1, none⟩ = some (.slice a' n' c')) :
  Calls Tryz.prog 272 #[.int .i64 i, .pointer (some ⟨A, 0, none⟩), .pointer (some ⟨S, 0, none⟩), .pointer (some ⟨C, 0, none⟩)] w fun e w' => e = .returned (.int .i64 (lim d i + lim d' i)) ∧ Below w.heap.size w w' := by
 have hs := hd.small i
 have hs' := hd'.small i
 go_enter Tryz.func272, Tryz.ntmps272
 go_wp2
 go_quiet ((first | (go_at_call 273; first | exact In (Gu _ _ _ _ d i (hd.keep (Ay _ (Ac _ _)))) | exact In (Gu _ _ _ _ d' i (hd'.keep (Ay _ (Ac _ _)))) | exact Ha (Gu _ _ _ _ d i (hd.keep (Ay _ (Ac _ _)))) | exact Ha (Gu _ _ _ _ d' i (hd'.keep (Ay _ (Ac _ _)))))))
 exact qEm
theorem Sb (w : World) (A S C : Nat) (a : Option Addr) (n c : Nat) (d : List Nat) (a' : Option Addr) (n' c' : Nat) (d' : List Nat) (i : Nat) (hd : RdL w a n c d) (hd' : RdL w a' n' c' d')
  (h1 : w.cell? ⟨A, 1, none⟩ = some (.slice a n c)) (h2 : w.cell? ⟨S, 0, none⟩ = some (.int .i64 (-1))) (h3 : w.cell? ⟨C, 1, none⟩ = some (.slice a' n' c')) :
  Calls Tryz.prog 272 #[.int .i64 i, .pointer (some ⟨A, 0, none⟩), .pointer (some ⟨S, 0, none⟩), .pointer (some ⟨C, 0, none⟩)] w fun e w' => e = .returned (.int .i64 (lim d i - lim d' i)) ∧ Below w.heap.size w w' := by
 have hs := hd.small i
 have hs' := hd'.small i
 go_enter Tryz.func272, Tryz.ntmps272
 go_wp2
 go_quiet ((first | (go_at_call 273; first | exact In (Gu _ _ _ _ d i (hd.keep (Ay _ (Ac _ _)))) | exact In (Gu _ _ _ _ d' i (hd'.keep (Ay _ (Ac _ _)))) | exact Ha (Gu _ _ _ _ d i (hd.keep (Ay _ (Ac _ _)))) | exact Ha (Gu _ _ _ _ d' i (hd'.keep (Ay _ (Ac _ _)))))))
 go_wp2
 go_ret
 exact ⟨by simp [Int.sub_eq_add_neg], Ay _ (Ac _ _)⟩
theorem Wm (d d' : List Nat) (m : Nat) (h : d.length < m) (h' : d'.length < m) : Cl (fun i => lim d i + lim d' i) m = ((val d + val d' : Nat) : Int) := by
 rw [Nf (fun i => lim d i) (fun i => lim d' i), show Cl (fun i => lim d i) m = val d from Gg d m qB, show Cl (fun i => lim d' i) m = val d' from Gg d' m qB]
 omega
theorem Wl (d d' : List Nat) (m : Nat) (h : d.length < m) (h' : d'.length < m) (hv : val d' ≤ val d) : Cl (fun i => lim d i - lim d' i) m = ((val d - val d' : Nat) : Int) := by
 have e : Cl (fun i => lim d i - lim d' i) m = Cl (fun i => lim d i + (fun i => (-1) * lim d' i) i) m := Kj (fun i _ => by show lim d i - lim d' i = lim d i + (-1) * lim d' i; omega)
 rw [e, Nf (fun i => lim d i) (fun i => (-1) * lim d' i), M4 (fun i => lim d' i), show Cl (fun i => lim d i) m = val d from Gg d m qB, show Cl (fun i => lim d' i) m = val d' from Gg d' m qB]
 omega
theorem Ky (m N : Nat) (h : N < 1000000000 ^ m) : val (fxI m (N : Int)) = N := by rw [V9, L9 m N h]
theorem Ip (w : World) (M : Int) (m : Nat) (hM : M = m) (c1 c2 c3 : Value) (D : Nat → Int) (hm : m ≤ 35184372088832)
  (hD : ∀ i, i < m → -4000000000000000000 ≤ D i ∧ D i ≤ 4000000000000000000)
  (hcall : ∀ (i : Nat) (W : World), i < m → Below w.heap.size w W → Calls Tryz.prog 272 #[.int .i64 i, c1, c2, c3] W fun e W' => e = .returned (.int .i64 (D i)) ∧ Below W.heap.size W W') :
  Calls Tryz.prog 271 #[.int .i64 M, .func (.func 272) #[] #[c1, c2, c3]] w (H9 w m D) := by
 subst hM
 exact Xo w m c1 c2 c3 D hm hD hcall
end Go.Proofs.YtdamegaedmckbaaGreatDoor
end
