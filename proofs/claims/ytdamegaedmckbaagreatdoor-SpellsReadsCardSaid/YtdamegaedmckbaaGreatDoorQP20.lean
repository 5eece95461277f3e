/- Package polys: Check, where every number below has one part at most. -/
import Derived.Test.YtdamegaedmckbaaGreatDoorQP19
set_option linter.unusedSimpArgs false
set_option linter.unusedVariables false
set_option maxRecDepth 100000
set_option maxHeartbeats 4000000
section
namespace Go.Proofs.YtdamegaedmckbaaGreatDoor
open Go.RowKit
def Tm.mono (t : Tm) : Nat → Int := Bw t.m0 t.m1 t.m2 t.m3
def TOk (t : Tm) : Prop := FOk t.g1 t.d1 t.g2 t.d2 ∧ t.d1 ≠ []
def gX (p : Nat → Tm) (j : Nat) : Prop := TOk (p j) ∧ (0 < j → Fk (p j).mono (p (j - 1)).mono < 0)
def POk (p : Nat → Tm) (n : Nat) : Prop := ∀ j, j < n → gX p j
theorem Jr {w : World} {g1 : Bool} {a1 : Option Addr} {n1 c1 : Nat} {d1 : List Nat} {g2 : Bool} {a2 : Option Addr} {n2 c2 : Nat} {d2 : List Nat} (h1 : RdL w a1 n1 c1 d1) (h2 : RdL w a2 n2 c2 d2) (h : FOk g1 d1 g2 d2) :
  Bj w g1 a1 n1 c1 (if g1 then -(val d1 : Int) else val d1) g2 a2 n2 c2 (val d2) := by
 obtain ⟨o1, o2, e2, hne, hg⟩ := h
 have N2 := Eo h2 o2
 rw [e2] at N2
 simp only [Bool.false_eq_true, if_false] at N2
 refine ⟨Eo h1 o1, by rw [e2]; exact N2, ?_, ?_⟩
 ·have := Dz o2.1 hne; omega
 ·rw [← hg]
  cases g1 <;> simp [Int.gcd]
theorem Lt {g : Bool} {d : List Nat} (h : Ix g d) : (if g then -(val d : Int) else (val d : Int)) = 0 ↔ d = [] := by
 constructor
 ·intro h1
  apply Decidable.byContradiction
  intro hne
  have := Dz h.1 hne
  cases g <;> simp at h1 <;> omega
 ·rintro rfl
  cases g <;> simp [val]
theorem Z1 (w : World) (a : Option Addr) (n c : Nat) (p : Nat → Tm) (hp : RdP w a n c p) (hsm : ∀ k, k < n → (p k).n1 ≤ 1000000 ∧ (p k).n2 ≤ 1000000) (r : Bool) (hr : POk p n ↔ r = true) :
  Calls Tryz.prog 23 #[.slice a n c] w fun e w' => e = .returned (.bool r) ∧ Below w.heap.size w w' := by
 have HB := Ac w.heap.size w
 have hn := hp.few
 have HR := Ae hr
 have HS := Ae hsm
 clear hr hsm
 go_enter Tryz.func23, Tryz.ntmps23
 go_wp2_with fail
 go_loopw [7] (fun v wr => ∃ k : Nat, k ≤ n ∧ v = .int .i64 k ∧ Below w.heap.size w wr ∧ Hid (POk p k)) (fun v _ => n - (intOf v).toNat)
 case atStart => exact ⟨0, Nat.zero_le _, rfl, HB, Ae (fun j hj => absurd hj (Nat.not_lt_zero _))⟩
 case round =>
  obtain ⟨k, hk, rfl, HBr, he⟩ := hrel
  clear HB
  by_cases hlt : k < n
  ·obtain ⟨b, o, rfl, hcl⟩ := hp.cell.resolve_left qB
   have hpr := hp.keep HBr
   have HT := hpr.tm k hlt
   obtain ⟨e0, e1, e2, e3, e4, e5, e6, e7⟩ := hpr.at hlt
   have hs := HS.out k hlt
   have HCL := Ae hcl
   clear hcl
   cases k with
   | zero =>
    obtain ⟨t, ht⟩ : ∃ t, t = p 0 := ⟨_, rfl⟩
    rw [← ht] at HT e0 e1 e2 e3 e4 e5 e6 e7 hs
    have HTK := Ae ht
    clear ht
    simp only [Nat.zero_mul, Nat.add_zero] at e0 e1 e2 e3 e4 e5 e6 e7
    have hszw := HBr.size
    go_upto_region 4 with fail
    have HB1 : Below w.heap.size w (wr.alloc (.cells #[.bool t.g1, .slice t.a1 t.n1 t.c1, .bool t.g2, .slice t.a2 t.n2 t.c2, .int .u16 t.m0, .int .u16 t.m1, .int .u16 t.m2, .int .u16 t.m3] 68)) := by go_grown
    have c0 : (wr.alloc (.cells #[.bool t.g1, .slice t.a1 t.n1 t.c1, .bool t.g2, .slice t.a2 t.n2 t.c2, .int .u16 t.m0, .int .u16 t.m1, .int .u16 t.m2, .int .u16 t.m3] 68)).cell? ⟨wr.heap.size, 0, none⟩ = some (.bool t.g1) := by simp [go_sem]
    have c1 : (wr.alloc (.cells #[.bool t.g1, .slice t.a1 t.n1 t.c1, .bool t.g2, .slice t.a2 t.n2 t.c2, .int .u16 t.m0, .int .u16 t.m1, .int .u16 t.m2, .int .u16 t.m3] 68)).cell? ⟨wr.heap.size, 1, none⟩ = some (.slice t.a1 t.n1 t.c1) := by simp [go_sem]
    have c2 : (wr.alloc (.cells #[.bool t.g1, .slice t.a1 t.n1 t.c1, .bool t.g2, .slice t.a2 t.n2 t.c2, .int .u16 t.m0, .int .u16 t.m1, .int .u16 t.m2, .int .u16 t.m3] 68)).cell? ⟨wr.heap.size, 2, none⟩ = some (.bool t.g2) := by simp [go_sem]
    have c3 : (wr.alloc (.cells #[.bool t.g1, .slice t.a1 t.n1 t.c1, .bool t.g2, .slice t.a2 t.n2 t.c2, .int .u16 t.m0, .int .u16 t.m1, .int .u16 t.m2, .int .u16 t.m3] 68)).cell? ⟨wr.heap.size, 3, none⟩ = some (.slice t.a2 t.n2 t.c2) := by simp [go_sem]
    have c4 : (wr.alloc (.cells #[.bool t.g1, .slice t.a1 t.n1 t.c1, .bool t.g2, .slice t.a2 t.n2 t.c2, .int .u16 t.m0, .int .u16 t.m1, .int .u16 t.m2, .int .u16 t.m3] 68)).cell? ⟨wr.heap.size, 4, none⟩ = some (.int .u16 t.m0) := by simp [go_sem]
    have c5 : (wr.alloc (.cells #[.bool t.g1, .slice t.a1 t.n1 t.c1, .bool t.g2, .slice t.a2 t.n2 t.c2, .int .u16 t.m0, .int .u16 t.m1, .int .u16 t.m2, .int .u16 t.m3] 68)).cell? ⟨wr.heap.size, 5, none⟩ = some (.int .u16 t.m1) := by simp [go_sem]
    have c6 : (wr.alloc (.cells #[.bool t.g1, .slice t.a1 t.n1 t.c1, .bool t.g2, .slice t.a2 t.n2 t.c2, .int .u16 t.m0, .int .u16 t.m1, .int .u16 t.m2, .int .u16 t.m3] 68)).cell? ⟨wr.heap.size, 6, none⟩ = some (.int .u16 t.m2) := by simp [go_sem]
    have c7 : (wr.alloc (.cells #[.bool t.g1, .slice t.a1 t.n1 t.c1, .bool t.g2, .slice t.a2 t.n2 t.c2, .int .u16 t.m0, .int .u16 t.m1, .int .u16 t.m2, .int .u16 t.m3] 68)).cell? ⟨wr.heap.size, 7, none⟩ = some (.int .u16 t.m3) := by simp [go_sem]
    have hb1 : Below wr.heap.size wr (wr.alloc (.cells #[.bool t.g1, .slice t.a1 t.n1 t.c1, .bool t.g2, .slice t.a2 t.n2 t.c2, .int .u16 t.m0, .int .u16 t.m1, .int .u16 t.m2, .int .u16 t.m3] 68)) := by go_grown
    replace HT := HT.keep hb1
    generalize (wr.alloc (.cells #[.bool t.g1, .slice t.a1 t.n1 t.c1, .bool t.g2, .slice t.a2 t.n2 t.c2, .int .u16 t.m0, .int .u16 t.m1, .int .u16 t.m2, .int .u16 t.m3] 68)) = w1 at *
    generalize wr.heap.size = B at *
    have hs1 : t.n1 < 35184372088829 := by omega
    have hs2 : t.n2 < 35184372088829 := by omega
    replace c0 := A8 c0
    replace c1 := A8 c1
    replace c2 := A8 c2
    replace c3 := A8 c3
    replace c4 := A8 c4
    replace c5 := A8 c5
    replace c6 := A8 c6
    replace c7 := A8 c7
    clear hb1 hpr HBr
    by_cases hF0 : FOk t.g1 t.d1 t.g2 t.d2
    ·have hF := Ae hF0
     have HA := Jr HT.top HT.low hF0
     have hsz := Lt hF0.1
     generalize (if t.g1 then -(val t.d1 : Int) else (val t.d1 : Int)) = z at *
     clear hF0
     by_cases hz0 : z = 0
     ·have hd0 := Ae (hsz.1 hz0)
      have hz : Br z 0 = 0 := by rw [hz0]; exact C9 0
      have hr0 : r = false := by
       exact qCo
      subst hr0
      clear hz0 hsz
      (refine A9 qG qG ?_; (repeat (go_big_quiet_step (first | (go_at_call 93; exact Cz (Gq _ t.g1 t.a1 t.n1 t.c1 t.d1 (HT.top.keep (Subtype.property _)) t.g2 t.a2 t.n2 t.c2 t.d2 (HT.low.keep (Subtype.property _)) hs2 hs1 true ⟨fun _ => rfl, fun _ => hF.out⟩)) | (go_at_call 31; exact Cz (Hc _ _ _ _ _ _ _ _ _ _ _ (HA.keep (Subtype.property _)) hs2 hs1))))); refine wpQuiet_nil ?_; intro _ hw0; obtain ⟨nq, hw0⟩ := hw0; subst hw0)
      exact qCu
     ·have hd0 := Ae (fun e => hz0 (hsz.2 e))
      have hz : (Br z 0 == 0) = false := by rw [beq_eq_false_iff_ne]; exact fun e => hz0 (En.1 e)
      clear hz0 hsz
      (refine A9 qG qG ?_; (repeat (go_big_quiet_step (first | (go_at_call 93; exact Cz (Gq _ t.g1 t.a1 t.n1 t.c1 t.d1 (HT.top.keep (Subtype.property _)) t.g2 t.a2 t.n2 t.c2 t.d2 (HT.low.keep (Subtype.property _)) hs2 hs1 true ⟨fun _ => rfl, fun _ => hF.out⟩)) | (go_at_call 31; exact Cz (Hc _ _ _ _ _ _ _ _ _ _ _ (HA.keep (Subtype.property _)) hs2 hs1))))); refine wpQuiet_nil ?_; intro _ hw0; obtain ⟨nq, hw0⟩ := hw0; subst hw0)
      go_wp2_with fail
      go_roundw
      case rel => exact ⟨1, by omega, rfl, HB1.trans (nq.2.mono HB1.size), Ae (fun i hi => by have h0 : i = 0 := qB; subst h0; exact ⟨by rw [← HTK.out]; exact ⟨hF.out, hd0.out⟩, fun h => absurd h qB⟩)⟩
      case measure => simp [intOf]; omega
    ·exact qBo
   | succ j =>
    obtain ⟨t, ht⟩ : ∃ t, t = p (j + 1) := ⟨_, rfl⟩
    rw [← ht] at HT e0 e1 e2 e3 e4 e5 e6 e7 hs
    have HTK := Ae ht
    clear ht
    have hszw := HBr.size
    have hjn : j < n := by omega
    go_upto_region 4 with fail
    clear e0 e1 e2 e3 e4 e5 e6 e7
    obtain ⟨_, _, _, _, e4, e5, e6, e7⟩ := hpr.at (show j < n by omega)
    obtain ⟨u, hu⟩ : ∃ u, u = p j := ⟨_, rfl⟩
    rw [← hu] at e4 e5 e6 e7
    have HUK := Ae hu
    clear hu
    have HB1 : Below w.heap.size w (wr.alloc (.cells #[.bool t.g1, .slice t.a1 t.n1 t.c1, .bool t.g2, .slice t.a2 t.n2 t.c2, .int .u16 t.m0, .int .u16 t.m1, .int .u16 t.m2, .int .u16 t.m3] 68)) := by go_grown
    have c0 : (wr.alloc (.cells #[.bool t.g1, .slice t.a1 t.n1 t.c1, .bool t.g2, .slice t.a2 t.n2 t.c2, .int .u16 t.m0, .int .u16 t.m1, .int .u16 t.m2, .int .u16 t.m3] 68)).cell? ⟨wr.heap.size, 0, none⟩ = some (.bool t.g1) := by simp [go_sem]
    have c1 : (wr.alloc (.cells #[.bool t.g1, .slice t.a1 t.n1 t.c1, .bool t.g2, .slice t.a2 t.n2 t.c2, .int .u16 t.m0, .int .u16 t.m1, .int .u16 t.m2, .int .u16 t.m3] 68)).cell? ⟨wr.heap.size, 1, none⟩ = some (.slice t.a1 t.n1 t.c1) := by simp [go_sem]
    have c2 : (wr.alloc (.cells #[.bool t.g1, .slice t.a1 t.n1 t.c1, .bool t.g2, .slice t.a2 t.n2 t.c2, .int .u16 t.m0, .int .u16 t.m1, .int .u16 t.m2, .int .u16 t.m3] 68)).cell? ⟨wr.heap.size, 2, none⟩ = some (.bool t.g2) := by simp [go_sem]
    have c3 : (wr.alloc (.cells #[.bool t.g1, .slice t.a1 t.n1 t.c1, .bool t.g2, .slice t.a2 t.n2 t.c2, .int .u16 t.m0, .int .u16 t.m1, .int .u16 t.m2, .int .u16 t.m3] 68)).cell? ⟨wr.heap.size, 3, none⟩ = some (.slice t.a2 t.n2 t.c2) := by simp [go_sem]
    have c4 : (wr.alloc (.cells #[.bool t.g1, .slice t.a1 t.n1 t.c1, .bool t.g2, .slice t.a2 t.n2 t.c2, .int .u16 t.m0, .int .u16 t.m1, .int .u16 t.m2, .int .u16 t.m3] 68)).cell? ⟨wr.heap.size, 4, none⟩ = some (.int .u16 t.m0) := by simp [go_sem]
    have c5 : (wr.alloc (.cells #[.bool t.g1, .slice t.a1 t.n1 t.c1, .bool t.g2, .slice t.a2 t.n2 t.c2, .int .u16 t.m0, .int .u16 t.m1, .int .u16 t.m2, .int .u16 t.m3] 68)).cell? ⟨wr.heap.size, 5, none⟩ = some (.int .u16 t.m1) := by simp [go_sem]
    have c6 : (wr.alloc (.cells #[.bool t.g1, .slice t.a1 t.n1 t.c1, .bool t.g2, .slice t.a2 t.n2 t.c2, .int .u16 t.m0, .int .u16 t.m1, .int .u16 t.m2, .int .u16 t.m3] 68)).cell? ⟨wr.heap.size, 6, none⟩ = some (.int .u16 t.m2) := by simp [go_sem]
    have c7 : (wr.alloc (.cells #[.bool t.g1, .slice t.a1 t.n1 t.c1, .bool t.g2, .slice t.a2 t.n2 t.c2, .int .u16 t.m0, .int .u16 t.m1, .int .u16 t.m2, .int .u16 t.m3] 68)).cell? ⟨wr.heap.size, 7, none⟩ = some (.int .u16 t.m3) := by simp [go_sem]
    have hb1 : Below wr.heap.size wr (wr.alloc (.cells #[.bool t.g1, .slice t.a1 t.n1 t.c1, .bool t.g2, .slice t.a2 t.n2 t.c2, .int .u16 t.m0, .int .u16 t.m1, .int .u16 t.m2, .int .u16 t.m3] 68)) := by go_grown
    have e4 := Au hb1 e4
    have e5 := Au hb1 e5
    have e6 := Au hb1 e6
    have e7 := Au hb1 e7
    replace HT := HT.keep hb1
    generalize (wr.alloc (.cells #[.bool t.g1, .slice t.a1 t.n1 t.c1, .bool t.g2, .slice t.a2 t.n2 t.c2, .int .u16 t.m0, .int .u16 t.m1, .int .u16 t.m2, .int .u16 t.m3] 68)) = w1 at *
    generalize wr.heap.size = B at *
    have hs1 : t.n1 < 35184372088829 := by omega
    have hs2 : t.n2 < 35184372088829 := by omega
    replace c0 := A8 c0
    replace c1 := A8 c1
    replace c2 := A8 c2
    replace c3 := A8 c3
    replace c4 := A8 c4
    replace c5 := A8 c5
    replace c6 := A8 c6
    replace c7 := A8 c7
    replace e4 := A8 e4
    replace e5 := A8 e5
    replace e6 := A8 e6
    replace e7 := A8 e7
    clear hb1 hpr HBr
    by_cases hF0 : FOk t.g1 t.d1 t.g2 t.d2
    ·have hF := Ae hF0
     have HA := Jr HT.top HT.low hF0
     have hsz := Lt hF0.1
     generalize (if t.g1 then -(val t.d1 : Int) else (val t.d1 : Int)) = z at *
     clear hF0
     by_cases hz0 : z = 0
     ·have hd0 := Ae (hsz.1 hz0)
      have hz : Br z 0 = 0 := by rw [hz0]; exact C9 0
      have hr0 : r = false := by
       exact qCo
      subst hr0
      clear hz0 hsz
      (refine A9 qG qG ?_; (repeat (go_big_quiet_step (first | (go_at_call 93; exact Cz (Gq _ t.g1 t.a1 t.n1 t.c1 t.d1 (HT.top.keep (Subtype.property _)) t.g2 t.a2 t.n2 t.c2 t.d2 (HT.low.keep (Subtype.property _)) hs2 hs1 true ⟨fun _ => rfl, fun _ => hF.out⟩)) | (go_at_call 31; exact Cz (Hc _ _ _ _ _ _ _ _ _ _ _ (HA.keep (Subtype.property _)) hs2 hs1)) | (go_at_call 94; exact Cz (Qf _ _ _ _ _ _ _ _ _))))); refine wpQuiet_nil ?_; intro _ hw0; obtain ⟨nq, hw0⟩ := hw0; subst hw0)
      exact qCu
     ·have hd0 := Ae (fun e => hz0 (hsz.2 e))
      have hz : (Br z 0 == 0) = false := by rw [beq_eq_false_iff_ne]; exact fun e => hz0 (En.1 e)
      clear hz0 hsz
      by_cases hl0 : Fk (Bw t.m0 t.m1 t.m2 t.m3) (Bw u.m0 u.m1 u.m2 u.m3) < 0
      ·have hl := Ae hl0
       have hl1 : decide (0 ≤ Fk (Bw t.m0 t.m1 t.m2 t.m3) (Bw u.m0 u.m1 u.m2 u.m3)) = false := by rw [decide_eq_false_iff_not]; omega
       clear hl0
       (refine A9 qG qG ?_; (repeat (go_big_quiet_step (first | (go_at_call 93; exact Cz (Gq _ t.g1 t.a1 t.n1 t.c1 t.d1 (HT.top.keep (Subtype.property _)) t.g2 t.a2 t.n2 t.c2 t.d2 (HT.low.keep (Subtype.property _)) hs2 hs1 true ⟨fun _ => rfl, fun _ => hF.out⟩)) | (go_at_call 31; exact Cz (Hc _ _ _ _ _ _ _ _ _ _ _ (HA.keep (Subtype.property _)) hs2 hs1)) | (go_at_call 94; exact Cz (Qf _ _ _ _ _ _ _ _ _))))); refine wpQuiet_nil ?_; intro _ hw0; obtain ⟨nq, hw0⟩ := hw0; subst hw0)
       go_wp2_with fail
       go_roundw
       case rel => exact ⟨j + 1 + 1, by omega, by simp, HB1.trans (nq.2.mono HB1.size), Ae (fun i hi => by
       rcases Nat.lt_or_ge i (j + 1) with h | h
       ·exact he.out i h
       ·obtain rfl : i = j + 1 := by omega
        exact ⟨by rw [← HTK.out]; exact ⟨hF.out, hd0.out⟩, fun _ => by rw [← HTK.out, Nat.add_sub_cancel, ← HUK.out]; exact hl.out⟩)⟩
       case measure => simp [intOf]; omega
      ·have hl1 : decide (0 ≤ Fk (Bw t.m0 t.m1 t.m2 t.m3) (Bw u.m0 u.m1 u.m2 u.m3)) = true := by rw [decide_eq_true_iff]; omega
       have hr0 : r = false := by
        exact qEg
       subst hr0
       clear hl0
       (refine A9 qG qG ?_; (repeat (go_big_quiet_step (first | (go_at_call 93; exact Cz (Gq _ t.g1 t.a1 t.n1 t.c1 t.d1 (HT.top.keep (Subtype.property _)) t.g2 t.a2 t.n2 t.c2 t.d2 (HT.low.keep (Subtype.property _)) hs2 hs1 true ⟨fun _ => rfl, fun _ => hF.out⟩)) | (go_at_call 31; exact Cz (Hc _ _ _ _ _ _ _ _ _ _ _ (HA.keep (Subtype.property _)) hs2 hs1)) | (go_at_call 94; exact Cz (Qf _ _ _ _ _ _ _ _ _))))); refine wpQuiet_nil ?_; intro _ hw0; obtain ⟨nq, hw0⟩ := hw0; subst hw0)
       exact qCu
    ·exact qBo
  ·exact qEl
theorem eI (w : World) (a : Option Addr) (n c : Nat) (p : Nat → Tm) (hp : RdP w a n c p) (hsm : ∀ k, k < n → (p k).n1 ≤ 1000000 ∧ (p k).n2 ≤ 1000000) (r : Bool) (hr : POk p n ↔ r = true) :
  Calls Tryz.prog 103 #[.slice a n c] w fun e w' => e = .returned (if r then .slice a n c else .slice none 0 0) ∧ Below w.heap.size w w' := by
 have HB := Ac w.heap.size w
 have HR := Ae hr
 have HS := Ae hsm
 clear hr hsm
 go_enter Tryz.func103, Tryz.ntmps103
 go_wp2_with fail
 refine (Z1 _ a n c p hp HS.out r HR.out).mono ?_
 rintro e w1 ⟨rfl, hb⟩
 cases r with
 | true =>
  go_wp2_with fail
  exact bodyPost_ret (v := .slice a n c) (by simp [results, Tryz.results103, go_sem]) rfl ⟨rfl, by go_grown⟩
 | false =>
  go_wp2_with fail
  exact bodyPost_ret (v := .slice none 0 0) (by simp [results, Tryz.results103, go_sem]) rfl ⟨rfl, by go_grown⟩
def Dh (a b c d : Nat) : Nat := ((a * 65536 + b) * 65536 + c) * 65536 + d
theorem bU {a b c d : Nat} (ha : a < 65536) (hb : b < 65536) (hc : c < 65536) (hd : d < 65536) : Dh a b c d < 18446744073709551616 := by unfold Dh; omega
theorem Sf {a b c d a' b' c' d' : Nat} (ha : a < 65536) (hb : b < 65536) (hc : c < 65536) (hd : d < 65536) (ha' : a' < 65536) (hb' : b' < 65536) (hc' : c' < 65536) (hd' : d' < 65536) (h : Dh a b c d = Dh a' b' c' d') : a = a' ∧ b = b' ∧ c = c' ∧ d = d' := by
 unfold Dh at h; omega
theorem Ox (a b : Nat) : Br (a : Int) (b : Int) = if a < b then -1 else if a = b then 0 else 1 := by
 unfold Br
 by_cases h1 : a < b
 ·rw [if_pos qB, if_pos h1]
 ·rw [if_neg qB, if_neg h1]
  by_cases h2 : a = b
  ·rw [if_pos qB, if_pos h2]
  ·rw [if_neg qB, if_neg h2]
theorem Oa {a b c d a' b' c' d' : Nat} (ha : a < 65536) (hb : b < 65536) (hc : c < 65536) (hd : d < 65536) (ha' : a' < 65536) (hb' : b' < 65536) (hc' : c' < 65536) (hd' : d' < 65536) :
  Fk (Bw a b c d) (Bw a' b' c' d') = Br (Dh a b c d : Nat) (Dh a' b' c' d' : Nat) := by
 unfold Fk
 simp only [Bw, Ox, ne_eq, Int.natCast_inj]
 by_cases h1 : a = a'
 ·by_cases h2 : b = b'
  ·by_cases h3 : c = c'
   ·by_cases h4 : d = d'
    ·subst h1 h2 h3 h4; simp
    ·subst h1 h2 h3
     rw [if_neg qH, if_neg qH, if_neg qH, if_pos (by simpa using h4)]
     unfold Dh
     by_cases h : d < d'
     ·rw [if_pos h, if_pos qB]
     ·rw [if_neg h, if_neg h4, if_neg qB, if_neg qB]
   ·subst h1 h2
    rw [if_neg qH, if_neg qH, if_pos (by simpa using h3)]
    unfold Dh
    by_cases h : c < c'
    ·rw [if_pos h, if_pos qB]
    ·rw [if_neg h, if_neg h3, if_neg qB, if_neg qB]
  ·subst h1
   rw [if_neg qH, if_pos (by simpa using h2)]
   unfold Dh
   by_cases h : b < b'
   ·rw [if_pos h, if_pos qB]
   ·rw [if_neg h, if_neg h2, if_neg qB, if_neg qB]
 ·rw [if_pos (by simpa using h1)]
  unfold Dh
  by_cases h : a < a'
  ·rw [if_pos h, if_pos qB]
  ·rw [if_neg h, if_neg h1, if_neg qB, if_neg qB]
abbrev Nw (B n : Nat) (a : Option Addr) : Prop := n = 0 ∨ Qh B a
theorem Nw.mono {B B' n : Nat} {a : Option Addr} (h : Nw B n a) (hB : B' ≤ B) : Nw B' n a := h.imp id (·.mono hB)
theorem RdL.butR {w w' : World} {a : Option Addr} {n c : Nat} {d : List Nat} {row : Option Nat} {B : Nat} (h : RdL w a n c d) (hn : Nw B n a) (hg : w.grownBy w' row) (hr : ∀ k, row = some k → k < B) : RdL w' a n c d := by
 refine ⟨h.len, h.cap, h.few, h.top, h.small, ?_⟩
 rcases h.cell with h0 | ⟨b, o, ha, hc⟩
 ·exact .inl h0
 ·rcases hn with h0 | hn
  ·exact .inl h0
  ·refine .inr ⟨b, o, ha, fun i hi => hg.cell (hc i hi) fun e => ?_⟩
   have h1 := hr _ e.symm
   have h2 := hn _ ha
   simp at h1 h2
   omega
theorem A4.butR {w w' : World} {g : Bool} {a : Option Addr} {n c : Nat} {z : Int} {row : Option Nat} {B : Nat} (h : A4 w g a n c z) (hn : Nw B n a) (hg : w.grownBy w' row) (hr : ∀ k, row = some k → k < B) : A4 w' g a n c z := ⟨h.neg, h.rd.butR hn hg hr⟩
theorem Bj.butR {w w' : World} {g1 : Bool} {a1 : Option Addr} {n1 c1 : Nat} {p : Int} {g2 : Bool} {a2 : Option Addr} {n2 c2 : Nat} {q : Int} {row : Option Nat} {B : Nat} (h : Bj w g1 a1 n1 c1 p g2 a2 n2 c2 q) (h1 : Nw B n1 a1) (h2 : Nw B n2 a2) (hg : w.grownBy w' row) (hr : ∀ k, row = some k → k < B) : Bj w' g1 a1 n1 c1 p g2 a2 n2 c2 q :=
 ⟨h.top.butR h1 hg hr, h.low.butR h2 hg hr, h.pos, h.red⟩
structure Iv (t : Tm) (x : PT) : Prop where
 g1 : t.g1 = decide (x.2.1 < 0)
 d1 : t.d1 = dg x.2.1.natAbs
 g2 : t.g2 = decide (x.2.2 < 0)
 d2 : t.d2 = dg x.2.2.natAbs
 key : Dh t.m0 t.m1 t.m2 t.m3 = x.1
theorem Iv.frac {w : World} {t : Tm} {x : PT} (h : Iv t x) (hr : Gy w t) (hc : CW x.2) : Bj w t.g1 t.a1 t.n1 t.c1 x.2.1 t.g2 t.a2 t.n2 t.c2 x.2.2 :=
 ⟨⟨h.g1, h.d1 ▸ hr.top⟩, ⟨h.g2, h.d2 ▸ hr.low⟩, hc.pos, hc.red⟩
def Da (K : Nat) (l : List PT) : Prop := ∀ t ∈ l, (dg t.2.1.natAbs).length ≤ K ∧ (dg t.2.2.natAbs).length ≤ K
structure Bk (w : World) (B : Nat) (a : Option Addr) (n c : Nat) (l : List PT) : Prop where
 len : l.length = n
 base : Nw B n a
 nl : a = none → c = 0
 ts : ∃ p : Nat → Tm, RdP w a n c p ∧ ∀ i x, l[i]? = some x → Iv (p i) x ∧ Nw B (p i).n1 (p i).a1 ∧ Nw B (p i).n2 (p i).a2
theorem Bk.keep {w w' : World} {B : Nat} {a : Option Addr} {n c : Nat} {l : List PT} (h : Bk w B a n c l) (hb : Below w.heap.size w w') : Bk w' B a n c l := by
 obtain ⟨p, hp, hx⟩ := h.ts
 exact ⟨h.len, h.base, h.nl, p, hp.keep hb, hx⟩
theorem Bk.mono {w : World} {B B' : Nat} {a : Option Addr} {n c : Nat} {l : List PT} (h : Bk w B a n c l) (hB : B' ≤ B) : Bk w B' a n c l := by
 obtain ⟨p, hp, hx⟩ := h.ts
 exact ⟨h.len, h.base.mono hB, h.nl, p, hp, fun i x hi => ⟨(hx i x hi).1, (hx i x hi).2.1.mono hB, (hx i x hi).2.2.mono hB⟩⟩
theorem H7.butR {w w' : World} {b o : Nat} {t : Tm} {row : Option Nat} (h : H7 w b o t) (hg : w.grownBy w' row) (hr : some b ≠ row) : H7 w' b o t :=
 ⟨hg.cell h.e0 hr, hg.cell h.e1 hr, hg.cell h.e2 hr, hg.cell h.e3 hr, hg.cell h.e4 hr, hg.cell h.e5 hr, hg.cell h.e6 hr, hg.cell h.e7 hr⟩
theorem Bk.butR {w w' : World} {B : Nat} {a : Option Addr} {n c : Nat} {l : List PT} {row : Option Nat} (h : Bk w B a n c l) (hg : w.grownBy w' row) (hr : ∀ k, row = some k → k < B) : Bk w' B a n c l := by
 obtain ⟨p, hp, hx⟩ := h.ts
 refine ⟨h.len, h.base, h.nl, p, ⟨hp.cap, hp.few, hp.top, fun i hi => ?_, ?_⟩, hx⟩
 ·obtain ⟨x, hxi⟩ : ∃ x, l[i]? = some x := ⟨l[i]'(by rw [h.len]; exact hi), Ai _⟩
  have ht := hp.tm i hi
  obtain ⟨_, k1, k2⟩ := hx i x hxi
  exact ⟨ht.top.butR k1 hg hr, ht.low.butR k2 hg hr, ht.s0, ht.s1, ht.s2, ht.s3⟩
 ·rcases hp.cell with h0 | ⟨b, o, ha, hc⟩
  ·exact .inl h0
  ·rcases h.base with h0 | hn
   ·exact .inl h0
   ·exact qEe
theorem Bk.nil (w : World) (B : Nat) : Bk w B none 0 0 [] :=
 ⟨rfl, .inl rfl, fun _ => rfl, fun _ => ⟨false, none, 0, 0, [], false, none, 0, 0, [], 0, 0, 0, 0⟩, ⟨Ad _, by omega, by omega, fun i hi => by omega, .inl rfl⟩, fun i x hi => by simp at hi⟩
theorem Xg {n : Nat} (h : n ≠ 0) : dg n ≠ [] := by
 intro e
 have := Ba n
 rw [e, val] at this
 omega
theorem Bj.tok {w : World} {t : Tm} {x : PT} (h : Iv t x) (hr : Gy w t) (hc : CW x.2) (h0 : x.2.1 ≠ 0) : TOk t := by
 have := (h.frac hr hc).ok
 rw [← h.d1, ← h.d2] at this
 refine ⟨this, ?_⟩
 rw [h.d1]
 exact Xg qB
theorem Bk.pok {w : World} {B : Nat} {a : Option Addr} {n c : Nat} {l : List PT} (h : Bk w B a n c l) (hl : PW l) {p : Nat → Tm} (hp : RdP w a n c p) (hx : ∀ i x, l[i]? = some x → Iv (p i) x ∧ Nw B (p i).n1 (p i).a1 ∧ Nw B (p i).n2 (p i).a2) : POk p n := by
 intro j hj
 have hjl : j < l.length := by rw [h.len]; exact hj
 have e : l[j]? = some l[j] := Ai hjl
 have hg := hl.good l[j] (List.getElem_mem hjl)
 have hrj := hp.tm j hj
 refine ⟨Bj.tok (hx j _ e).1 hrj hg.1 hg.2, fun hj0 => ?_⟩
 have hk : j - 1 < l.length := by omega
 have e' : l[j - 1]? = some l[j - 1] := Ai hk
 have hrk := hp.tm (j - 1) qB
 have hlt : l[j].1 < l[j - 1].1 := List.pairwise_iff_getElem.1 hl.falls (j - 1) j hk hjl qB
 unfold Tm.mono
 rw [Oa hrj.s0 hrj.s1 hrj.s2 hrj.s3 hrk.s0 hrk.s1 hrk.s2 hrk.s3, (hx j _ e).1.key, (hx (j - 1) _ e').1.key]
 rw [Dm qB]
 decide
theorem Bk.few {w : World} {B : Nat} {a : Option Addr} {n c : Nat} {l : List PT} (h : Bk w B a n c l) {K : Nat} (hK : Da K l) {p : Nat → Tm} (hp : RdP w a n c p) (hx : ∀ i x, l[i]? = some x → Iv (p i) x ∧ Nw B (p i).n1 (p i).a1 ∧ Nw B (p i).n2 (p i).a2) : ∀ k, k < n → (p k).n1 ≤ K ∧ (p k).n2 ≤ K := by
 intro j hj
 have hjl : j < l.length := by rw [h.len]; exact hj
 have e : l[j]? = some l[j] := Ai hjl
 have hk := hK l[j] (List.getElem_mem hjl)
 have ht := (hx j _ e).1
 have hr := hp.tm j hj
 have h1 := hr.top.len
 have h2 := hr.low.len
 rw [ht.d1] at h1
 rw [ht.d2] at h2
 omega
theorem Fd : (dg 1).length = 1 := by rw [Gs qB, show 1 / 1000000000 = 0 from rfl, Dl]; rfl
theorem Ux (a b : Int) (hb : 0 < b) : (dg (Fz a b).natAbs).length ≤ (dg a.natAbs).length ∧ (dg (Fj a b).natAbs).length ≤ (dg b.natAbs).length := by
 unfold Fz Fj
 have h1 : (a / (Int.gcd a b : Int)).natAbs ≤ a.natAbs := Int.natAbs_ediv_le_natAbs ..
 have h2 : (b / (Int.gcd a b : Int)).natAbs ≤ b.natAbs := Int.natAbs_ediv_le_natAbs ..
 exact ⟨Be h1, Be h2⟩
def Cv (K : Nat) (c : PC) : Prop := (dg c.1.natAbs).length ≤ K ∧ (dg c.2.natAbs).length ≤ K
theorem Cv.mono {K K' : Nat} {c : PC} (h : Cv K c) (hK : K ≤ K') : Cv K' c := ⟨Ah h.1 hK, Ah h.2 hK⟩
theorem Np (x y K : Nat) (hx : (dg x).length ≤ K) (hy : (dg y).length ≤ K) : (dg (x + y)).length ≤ K + 1 := by
 have h2 : (dg 2).length = 1 := by rw [Gs qB, show 2 / 1000000000 = 0 from rfl, Dl]; rfl
 rcases Nat.le_total x y with h | h
 ·have e1 := Be (show x + y ≤ 2 * y by omega)
  have e2 := Io 2 y
  omega
 ·have e1 := Be (show x + y ≤ 2 * x by omega)
  have e2 := Io 2 x
  omega
theorem Mr (x y : Int) (K : Nat) (hx : (dg x.natAbs).length ≤ K) (hy : (dg y.natAbs).length ≤ K) : (dg (x + y).natAbs).length ≤ K + 1 := by
 have e := Np x.natAbs y.natAbs K hx hy
 have := Be (Int.natAbs_add_le x y)
 omega
theorem Cv.add {K1 K2 : Nat} {c d : PC} (hc : CW c) (hd : CW d) (h1 : Cv K1 c) (h2 : Cv K2 d) : Cv (K1 + K2 + 1) (Hu c d) := by
 have hp : 0 < c.2 * d.2 := Int.mul_pos hc.pos hd.pos
 obtain ⟨a1, a2⟩ := Ux (c.1 * d.2 + d.1 * c.2) (c.2 * d.2) hp
 obtain ⟨b1, b2⟩ := h1
 obtain ⟨b3, b4⟩ := h2
 have e2 := Ci c.1 d.2
 have e3 := Ci d.1 c.2
 have e4 := Ci c.2 d.2
 have e1 := Mr (c.1 * d.2) (d.1 * c.2) (K1 + K2) qB qB
 refine ⟨?_, ?_⟩
 ·show (dg (Fz (c.1 * d.2 + d.1 * c.2) (c.2 * d.2)).natAbs).length ≤ _; omega
 ·show (dg (Fj (c.1 * d.2 + d.1 * c.2) (c.2 * d.2)).natAbs).length ≤ _; omega
theorem Cv.mul {K1 K2 : Nat} {c d : PC} (hc : CW c) (hd : CW d) (h1 : Cv K1 c) (h2 : Cv K2 d) : Cv (K1 + K2) (Es c d) := by
 have hp : 0 < c.2 * d.2 := Int.mul_pos hc.pos hd.pos
 obtain ⟨a1, a2⟩ := Ux (c.1 * d.1) (c.2 * d.2) hp
 have e2 := Ci c.1 d.1
 have e4 := Ci c.2 d.2
 obtain ⟨b1, b2⟩ := h1
 obtain ⟨b3, b4⟩ := h2
 refine ⟨?_, ?_⟩
 ·show (dg (Fz (c.1 * d.1) (c.2 * d.2)).natAbs).length ≤ _; omega
 ·show (dg (Fj (c.1 * d.1) (c.2 * d.2)).natAbs).length ≤ _; omega
theorem Da.mono {K K' : Nat} {l : List PT} (h : Da K l) (hK : K ≤ K') : Da K' l := fun t ht => Cv.mono (h t ht) hK
theorem Da.add {K1 K2 : Nat} (a b : List PT) (ha : Xs a) (hb : Xs b) (h1 : Da K1 a) (h2 : Da K2 b) : Da (K1 + K2 + 1) (Bt a b) := by
 induction a, b using Bt.induct with
 | case1 b => rw [Bt]; exact h2.mono qB
 | case2 x a => rw [Bt]; exact h1.mono qB
 | case3 x a y b hlt ih =>
  rw [Bt, if_pos hlt]
  intro t ht
  rcases List.mem_cons.1 ht with rfl | ht
  ·exact Cv.mono (h1 _ qH) qB
  ·exact ih (fun t h => ha t (by simp [h])) hb (fun t h => h1 t (by simp [h])) h2 t ht
 | case4 x a y b hn hlt ih =>
  rw [Bt, if_neg hn, if_pos hlt]
  intro t ht
  rcases List.mem_cons.1 ht with rfl | ht
  ·exact Cv.mono (h2 _ qH) qB
  ·exact ih ha (fun t h => hb t (by simp [h])) h1 (fun t h => h2 t (by simp [h])) t ht
 | case5 x a y b hn hm h3 ih =>
  rw [Bt, if_neg hn, if_neg hm, if_pos h3]
  exact ih (fun t h => ha t (by simp [h])) (fun t h => hb t (by simp [h])) (fun t h => h1 t (by simp [h])) (fun t h => h2 t (by simp [h]))
 | case6 x a y b hn hm h3 ih =>
  rw [Bt, if_neg hn, if_neg hm, if_neg h3]
  intro t ht
  rcases List.mem_cons.1 ht with rfl | ht
  ·exact Cv.add (ha x qH).1 (hb y qH).1 (h1 x qH) (h2 y qH)
  ·exact ih (fun t h => ha t (by simp [h])) (fun t h => hb t (by simp [h])) (fun t h => h1 t (by simp [h])) (fun t h => h2 t (by simp [h])) t ht
def Bd (d : List UInt8) : Nat := d.foldl (fun n b => 10 * n + (b.toNat - 48)) 0
def Ec (d : List UInt8) : Nat := if 200 < d.length then 0 else Bd d
def Fe (L : List UInt8) (many : Bool) : Option (List UInt8 × List UInt8 × Bool) :=
 if Bb (L.takeWhile Bl) then some (L.takeWhile Bl, L.dropWhile Bl, many || decide (200 < (L.takeWhile Bl).length)) else none
def Eq (L : List UInt8) (many : Bool) : Option (List UInt8 × List UInt8 × Bool) :=
 match Fe L many with
 | none => none
 | some (d, r, m) => if d = [48] then none else some (d, r, m)
def Cp (L : List UInt8) (many : Bool) : Option (Nat × List UInt8 × Bool) :=
 if A6 L 94 then
  match Eq L.tail many with
  | none => none
  | some (d, r, m) => if 1000 < Bd d then some (0, r, true) else some (Bd d, r, m)
 else some (1, L, many)
def Df (n d : Nat) : PC := if d = 0 then (0, 1) else (Fz n d, Fj n d)
def Do (L : List UInt8) (many : Bool) : Option (PC × List UInt8 × Bool) :=
 match Fe L many with
 | none => none
 | some (t, r, m) =>
  if A6 r 47 then
   match Eq r.tail m with
   | none => none
   | some (l, r', m') => some (Df (Ec t) (Ec l), r', m')
  else some (Df (Ec t) 1, r, m)
def Ds (b : UInt8) : Option Nat :=
 if b = 120 then some 0 else if b = 121 then some 1 else if b = 122 then some 2 else if b = 116 then some 3 else none
structure TS where
 c : PC
 o : Nat → Nat
 L : List UInt8
 many : Bool
def Fl (o : Nat → Nat) (i n : Nat) : Nat → Nat := fun k => if k = i then o i + n else o k
def A7 (s : TS) : Option TS :=
 match s.L with
 | [] => none
 | b :: r =>
  match Ds b with
  | some i => match Cp r s.many with
   | none => none
   | some (n, r', m) => some ⟨s.c, Fl s.o i n, r', m⟩
  | none => match Do (b :: r) s.many with
   | none => none
   | some (c, r', m) => some ⟨Es s.c c, s.o, r', m⟩
def skp (L : List UInt8) : List UInt8 := L.dropWhile Gw
theorem Ef (L : List UInt8) : (skp L).length ≤ L.length := (List.dropWhile_sublist _).length_le
theorem J2 {L : List UInt8} {many : Bool} {d r : List UInt8} {m : Bool} (h : Fe L many = some (d, r, m)) : d.length + r.length = L.length ∧ 0 < d.length := by
 unfold Fe at h
 split at h
 ·next hd =>
  simp only [Option.some.injEq, Prod.mk.injEq] at h
  obtain ⟨rfl, rfl, _⟩ := h
  refine ⟨?_, ?_⟩
  ·rw [← List.length_append, List.takeWhile_append_dropWhile]
  ·cases he : L.takeWhile Bl with
   | nil => rw [he] at hd; simp [Bb] at hd
   | cons b t => simp
 ·cases h
theorem Id {L : List UInt8} {many : Bool} {d r : List UInt8} {m : Bool} (h : Eq L many = some (d, r, m)) : d.length + r.length = L.length ∧ 0 < d.length := by
 unfold Eq at h
 split at h
 ·cases h
 ·next d' r' m' h' =>
  split at h
  ·cases h
  ·cases h; exact J2 h'
theorem L7 {L : List UInt8} {many : Bool} {n : Nat} {r : List UInt8} {m : Bool} (h : Cp L many = some (n, r, m)) : r.length ≤ L.length := by
 unfold Cp at h
 split at h
 ·split at h
  ·cases h
  ·next d r' m' h' =>
   have h1 := Id h'
   have h2 : L.tail.length ≤ L.length := by simp
   split at h <;> cases h <;> omega
 ·cases h; exact Ad _
theorem Ug {L : List UInt8} {many : Bool} {c : PC} {r : List UInt8} {m : Bool} (h : Do L many = some (c, r, m)) : r.length < L.length := by
 unfold Do at h
 split at h
 ·cases h
 ·next t r' m' h' =>
  have h1 := J2 h'
  split at h
  ·split at h
   ·cases h
   ·next l r'' m'' h'' =>
    have h2 := Id h''
    have h3 : r'.tail.length ≤ r'.length := by simp
    cases h; omega
  ·cases h; omega
theorem Cq {s t : TS} (h : A7 s = some t) : t.L.length < s.L.length := by
 unfold A7 at h
 split at h
 ·cases h
 ·next b r hL =>
  rw [hL]
  split at h
  ·split at h
   ·cases h
   ·next n r' m h' =>
    have := L7 h'
    cases h
    simp; omega
  ·split at h
   ·cases h
   ·next c r' m h' =>
    have := Ug h'
    cases h
    simpa using this
def Bo (s : TS) : Option TS :=
 if Bz s.L then
  match h : A7 s with
  | none => none
  | some t =>
   if A6 (skp t.L) 42 then Bo { t with L := skp (skp t.L).tail }
   else if Bz (skp t.L) then Bo { t with L := skp t.L }
   else some { t with L := skp t.L }
 else none
termination_by s.L.length
decreasing_by
 ·have h1 := Cq h
  have h2 := Ef t.L
  have h3 := Ef (skp t.L).tail
  have h4 : (skp t.L).tail.length ≤ (skp t.L).length := by simp
  show (skp (skp t.L).tail).length < s.L.length
  omega
 ·have h1 := Cq h
  have h2 := Ef t.L
  show (skp t.L).length < s.L.length
  omega
def Ez (o : Nat → Nat) : Bool := decide (65535 < o 0) || decide (65535 < o 1) || decide (65535 < o 2) || decide (65535 < o 3)
def Hr (n : Nat) : Nat := min n 65535
def Iy (o : Nat → Nat) : Nat := Dh (Hr (o 0)) (Hr (o 1)) (Hr (o 2)) (Hr (o 3))
def J8 (k : Nat) (c : PC) : List PT := if c.1 = 0 then [] else [(k, c)]
def Bu (L : List UInt8) (many neg : Bool) : Option (List PT × List UInt8 × Bool) :=
 match Bo ⟨(if neg then -1 else 1, 1), fun _ => 0, skp L, many⟩ with
 | none => none
 | some t => some (J8 (Iy t.o) t.c, t.L, t.many || Ez t.o)
theorem Gh (s : TS) {t : TS} (h : Bo s = some t) : t.L.length < s.L.length := by
 induction s using Bo.induct with
 | case1 s hs hn => rw [Bo, if_pos hs] at h; split at h <;> simp_all
 | case2 s hs u hu h42 ih =>
  rw [Bo, if_pos hs] at h
  split at h
  ·cases h
  ·next u' hu' =>
   have : u' = u := by rw [hu'] at hu; exact Option.some.inj hu
   subst this
   rw [if_pos h42] at h
   have h1 := Cq hu'
   have h2 := Ef u'.L
   have h3 := Ef (skp u'.L).tail
   have h4 : (skp u'.L).tail.length ≤ (skp u'.L).length := by simp
   have h5 := ih h
   simp only at h5
   omega
 | case3 s hs u hu h42 hst ih =>
  rw [Bo, if_pos hs] at h
  split at h
  ·cases h
  ·next u' hu' =>
   have : u' = u := by rw [hu'] at hu; exact Option.some.inj hu
   subst this
   rw [if_neg h42, if_pos hst] at h
   have h1 := Cq hu'
   have h2 := Ef u'.L
   have h5 := ih h
   simp only at h5
   omega
 | case4 s hs u hu h42 hst =>
  rw [Bo, if_pos hs] at h
  split at h
  ·cases h
  ·next u' hu' =>
   have : u' = u := by rw [hu'] at hu; exact Option.some.inj hu
   subst this
   rw [if_neg h42, if_neg hst] at h
   cases h
   have h1 := Cq hu'
   have h2 := Ef u'.L
   simp only
   omega
 | case5 s hs => rw [Bo, if_neg hs] at h; cases h
theorem Ee {L : List UInt8} {many neg : Bool} {l : List PT} {r : List UInt8} {m : Bool} (h : Bu L many neg = some (l, r, m)) : r.length < L.length := by
 unfold Bu at h
 split at h
 ·cases h
 ·next t ht =>
  have h1 := Gh _ ht
  have h2 := Ef L
  cases h
  simp only at h1
  omega
def Dg (p : List PT) (L : List UInt8) (many : Bool) : Option (List PT × Bool) :=
 match L with
 | [] => some (p, many)
 | b :: r =>
  if b = 45 ∨ b = 43 then
   match h : Bu r many (b = 45) with
   | none => none
   | some (l, r', m) => Dg (Bt p l) r' m
  else none
termination_by L.length
decreasing_by
 have := Ee h
 simp; omega
def E4 (L : List UInt8) : Option (List PT × Bool) :=
 match Bu (if A6 (skp L) 45 then (skp L).tail else skp L) false (A6 (skp L) 45) with
 | none => none
 | some (l, r, m) => Dg l r m
def Cs (L : List UInt8) : List PT × Int :=
 if 65536 < L.length then ([], 3) else
  match E4 L with
  | none => ([], 4)
  | some (l, m) => if m then ([], 3) else (l, 0)
end Go.Proofs.YtdamegaedmckbaaGreatDoor
end
