/- Package polys: Check, where every number below has one part at most. polys.of: a polynomial that is of the form comes back as it is, else nothing. No further condition. Sums in memory, as lists of terms. No condition. Plain: how many parts the numbers of a sum have. No condition. Plain: what the reader of a sum reads. No condition. -/
import Derived.Test.YtdamegaedmckbaaGreatDoorQT13
import Derived.Test.YtdamegaedmckbaaGreatDoorQT7
import Derived.Test.YtdamegaedmckbaaGreatDoorQT22
import Derived.Test.YtdamegaedmckbaaGreatDoorQT6
import Derived.Test.YtdamegaedmckbaaGreatDoorQTZ
set_option linter.unusedSimpArgs false
set_option linter.unusedVariables false
set_option maxRecDepth 100000
set_option maxHeartbeats 4000000
section
namespace Go.Proofs.YtdamegaedmckbaaGreatDoor
open Go.RowKit
def Tm.mono (t : Tm) : Nat → Int := quad t.m0 t.m1 t.m2 t.m3
def TOk (t : Tm) : Prop := FOk t.g1 t.d1 t.g2 t.d2 ∧ t.d1 ≠ []
def okAt (p : Nat → Tm) (j : Nat) : Prop := TOk (p j) ∧ (0 < j → lexF (p j).mono (p (j - 1)).mono < 0)
def POk (p : Nat → Tm) (n : Nat) : Prop := ∀ j, j < n → okAt p j
theorem fracAt_of {w : World} {g1 : Bool} {a1 : Option Addr} {n1 c1 : Nat} {d1 : List Nat} {g2 : Bool} {a2 : Option Addr} {n2 c2 : Nat} {d2 : List Nat} (h1 : RdL w a1 n1 c1 d1) (h2 : RdL w a2 n2 c2 d2) (h : FOk g1 d1 g2 d2) :
  FracAt w g1 a1 n1 c1 (if g1 then -(val d1 : Int) else val d1) g2 a2 n2 c2 (val d2) := by
 obtain ⟨o1, o2, e2, hne, hg⟩ := h
 have N2 := numAt_of_okay h2 o2
 rw [e2] at N2
 simp only [Bool.false_eq_true, if_false] at N2
 refine ⟨numAt_of_okay h1 o1, by rw [e2]; exact N2, ?_, ?_⟩
 ·have := val_pos_of_canon o2.1 hne; omega
 ·rw [← hg]
  cases g1 <;> simp [Int.gcd]
theorem sgn_zero {g : Bool} {d : List Nat} (h : Okay g d) : (if g then -(val d : Int) else (val d : Int)) = 0 ↔ d = [] := by
 constructor
 ·intro h1
  apply Decidable.byContradiction
  intro hne
  have := val_pos_of_canon h.1 hne
  cases g <;> simp at h1 <;> omega
 ·rintro rfl
  cases g <;> simp [val]
theorem pCheck_c (w : World) (a : Option Addr) (n c : Nat) (p : Nat → Tm) (hp : RdP w a n c p) (hsm : ∀ k, k < n → (p k).n1 ≤ 1000000 ∧ (p k).n2 ≤ 1000000) (r : Bool) (hr : POk p n ↔ r = true) :
  Calls Tryz.prog 23 #[.slice a n c] w fun e w' => e = .returned (.bool r) ∧ Below w.heap.size w w' := by
 have HB := Below.refl w.heap.size w
 have hn := hp.few
 have HR := Lib.hid hr
 have HS := Lib.hid hsm
 clear hr hsm
 go_enter Tryz.func23, Tryz.ntmps23
 go_wp2_with fail
 go_loopw [7] (fun v wr => ∃ k : Nat, k ≤ n ∧ v = .int .i64 k ∧ Below w.heap.size w wr ∧ Hid (POk p k)) (fun v _ => n - (intOf v).toNat)
 case atStart => exact ⟨0, Nat.zero_le _, rfl, HB, Lib.hid (fun j hj => absurd hj (Nat.not_lt_zero _))⟩
 case round =>
  obtain ⟨k, hk, rfl, HBr, he⟩ := hrel
  clear HB
  by_cases hlt : k < n
  ·obtain ⟨b, o, rfl, hcl⟩ := hp.cell.resolve_left qB
   have hpr := hp.keep HBr
   have HT := hpr.tm k hlt
   obtain ⟨e0, e1, e2, e3, e4, e5, e6, e7⟩ := hpr.at hlt
   have hs := HS.out k hlt
   have HCL := Lib.hid hcl
   clear hcl
   cases k with
   | zero =>
    obtain ⟨t, ht⟩ : ∃ t, t = p 0 := ⟨_, rfl⟩
    rw [← ht] at HT e0 e1 e2 e3 e4 e5 e6 e7 hs
    have HTK := Lib.hid ht
    clear ht
    simp only [Nat.zero_mul, Nat.add_zero] at e0 e1 e2 e3 e4 e5 e6 e7
    have hszw := HBr.size
    go_upto_region 4 with fail
    have HB1 : Below w.heap.size w (wr.alloc (.cells #[.bool t.g1, .slice t.a1 t.n1 t.c1, .bool t.g2, .slice t.a2 t.n2 t.c2, .int .u16 t.m0, .int .u16 t.m1, .int .u16 t.m2, .int .u16 t.m3] 68)) := by go_grown
    have c0 : (wr.alloc (.cells #[.bool t.g1, .slice t.a1 t.n1 t.c1, .bool t.g2, .slice t.a2 t.n2 t.c2, .int .u16 t.m0, .int .u16 t.m1, .int .u16 t.m2, .int .u16 t.m3] 68)).cell? ⟨wr.heap.size, 0, none⟩ = some (.bool t.g1) := by simp [go_sem]
    have c1 : (wr.alloc (.cells #[.bool t.g1, .slice t.a1 t.n1 t.c1, .bool t.g2, .slice t.a2 t.n2 t.c2, .int .u16 t.m0, .int .u16 t.m1, .int .u16 t.m2, .int .u16 t.m3] 68)).cell? ⟨wr.heap.size, 1, none⟩ = some (.slice t.a1 t.n1 t.c1) := by simp [go_sem]
    have c2 : (wr.alloc (.cells #[.bool t.g1, .slice t.a1 t.n1 t.c1, .bool t.g2, .slice t.a2 t.n2 t.c2, .int .u16 t.m0, .int .u16 t.m1, .int .u16 t.m2, .int .u16 t.m3] 68)).cell? ⟨wr.heap.size, 2, none⟩ = some (.bool t.g2) := by simp [go_sem]
    have c3 : (wr.alloc (.cells #[.bool t.g1, .slice t.a1 t.n1 t.c1, .bool t.g2, .slice t.a2 t.n2 t.c2, .int .u16 t.m0, .int .u16 t.m1, .int .u16 t.m2, .int .u16 t.m3] 68)).cell? ⟨wr.heap.size, 3, none⟩ = some (.slice t.a2 t.n2 t.c2) := by simp [go_sem]
    have c4 : (wr.alloc (.cells #[.bool t.g1, .slice t.a1 t.n1 t.c1, .bool t.g2, .slice t.a2 t.n2 t.c2, .int .u16 t.m0, .int .u16 t.m1, .int .u16 t.m2, .int .u16 t.m3] 68)).cell? ⟨wr.heap.size, 4, none⟩ = some (.int .u16 t.m0) := by simp [go_sem]
    have c5 : (wr.alloc (.cells #[.bool t.g1, .slice t.a1 t.n1 t.c1, .bool t.g2, .slice t.a2 t.n2 t.c2, .int .u16 t.m0, .int .u16 t.m1, .int .u16 t.m2, .int .u16 t.m3] 68)).cell? ⟨wr.heap.size, 5, none⟩ = some (.int .u16 t.m1) := by simp [go_sem]
    have c6 : (wr.alloc (.cells #[.bool t.g1, .slice t.a1 t.n1 t.c1, .bool t.g2, .slice t.a2 t.n2 t.c2, .int .u16 t.m0, .int .u16 t.m1, .int .u16 t.m2, .int .u16 t.m3] 68)).cell? ⟨wr.heap.size, 6, none⟩ = some (.int .u16 t.m2) := by simp [go_sem]
    have c7 : (wr.alloc (.cells #[.bool t.g1, .slice t.a1 t.n1 t.c1, .bool t.g2, .slice t.a2 t.n2 t.c2, .int .u16 t.m0, .int .u16 t.m1, .int .u16 t.m2, .int .u16 t.m3] 68)).cell? ⟨wr.heap.size, 7, none⟩ = some (.int .u16 t.m3) := by simp [go_sem]
    have hb1 : Below wr.heap.size wr (wr.alloc (.cells #[.bool t.g1, .slice t.a1 t.n1 t.c1, .bool t.g2, .slice t.a2 t.n2 t.c2, .int .u16 t.m0, .int .u16 t.m1, .int .u16 t.m2, .int .u16 t.m3] 68)) := by go_grown
    replace HT := HT.keep hb1
    generalize (wr.alloc (.cells #[.bool t.g1, .slice t.a1 t.n1 t.c1, .bool t.g2, .slice t.a2 t.n2 t.c2, .int .u16 t.m0, .int .u16 t.m1, .int .u16 t.m2, .int .u16 t.m3] 68)) = w1 at *
    generalize wr.heap.size = B at *
    have hs1 : t.n1 < 35184372088829 := by omega
    have hs2 : t.n2 < 35184372088829 := by omega
    replace c0 := growC c0
    replace c1 := growC c1
    replace c2 := growC c2
    replace c3 := growC c3
    replace c4 := growC c4
    replace c5 := growC c5
    replace c6 := growC c6
    replace c7 := growC c7
    clear hb1 hpr HBr
    by_cases hF0 : FOk t.g1 t.d1 t.g2 t.d2
    ·have hF := Lib.hid hF0
     have HA := fracAt_of HT.top HT.low hF0
     have hsz := sgn_zero hF0.1
     generalize (if t.g1 then -(val t.d1 : Int) else (val t.d1 : Int)) = z at *
     clear hF0
     by_cases hz0 : z = 0
     ·have hd0 := Lib.hid (hsz.1 hz0)
      have hz : cmpI z 0 = 0 := by rw [hz0]; exact cmpI_eq 0
      have hr0 : r = false := by
       cases r
       ·rfl
       ·exact absurd hd0.out (by have := (HR.out.2 rfl _ hlt).1.2; rw [HTK.out]; exact this)
      subst hr0
      clear hz0 hsz
      (refine wp_region_grow qG qG ?_; (repeat (go_big_quiet_step (first | (go_at_call 93; exact growL (fCheck_c _ t.g1 t.a1 t.n1 t.c1 t.d1 (HT.top.keep (Subtype.property _)) t.g2 t.a2 t.n2 t.c2 t.d2 (HT.low.keep (Subtype.property _)) hs2 hs1 true ⟨fun _ => rfl, fun _ => hF.out⟩)) | (go_at_call 31; exact growL (fSign_c _ _ _ _ _ _ _ _ _ _ _ (HA.keep (Subtype.property _)) hs2 hs1))))); refine wpQuiet_nil ?_; intro _ hw0; obtain ⟨nq, hw0⟩ := hw0; subst hw0)
      go_wp2_with fail
      go_ret
      exact ⟨rfl, HB1.trans (nq.2.mono HB1.size)⟩
     ·have hd0 := Lib.hid (fun e => hz0 (hsz.2 e))
      have hz : (cmpI z 0 == 0) = false := by rw [beq_eq_false_iff_ne]; exact fun e => hz0 (cmpI_zero.1 e)
      clear hz0 hsz
      (refine wp_region_grow qG qG ?_; (repeat (go_big_quiet_step (first | (go_at_call 93; exact growL (fCheck_c _ t.g1 t.a1 t.n1 t.c1 t.d1 (HT.top.keep (Subtype.property _)) t.g2 t.a2 t.n2 t.c2 t.d2 (HT.low.keep (Subtype.property _)) hs2 hs1 true ⟨fun _ => rfl, fun _ => hF.out⟩)) | (go_at_call 31; exact growL (fSign_c _ _ _ _ _ _ _ _ _ _ _ (HA.keep (Subtype.property _)) hs2 hs1))))); refine wpQuiet_nil ?_; intro _ hw0; obtain ⟨nq, hw0⟩ := hw0; subst hw0)
      go_wp2_with fail
      go_roundw
      case rel => exact ⟨1, by omega, rfl, HB1.trans (nq.2.mono HB1.size), Lib.hid (fun i hi => by have h0 : i = 0 := qB; subst h0; exact ⟨by rw [← HTK.out]; exact ⟨hF.out, hd0.out⟩, fun h => absurd h qB⟩)⟩
      case measure => simp [intOf]; omega
    ·exact qBn
   | succ j =>
    obtain ⟨t, ht⟩ : ∃ t, t = p (j + 1) := ⟨_, rfl⟩
    rw [← ht] at HT e0 e1 e2 e3 e4 e5 e6 e7 hs
    have HTK := Lib.hid ht
    clear ht
    have hszw := HBr.size
    have hjn : j < n := by omega
    go_upto_region 4 with fail
    clear e0 e1 e2 e3 e4 e5 e6 e7
    obtain ⟨_, _, _, _, e4, e5, e6, e7⟩ := hpr.at (show j < n by omega)
    obtain ⟨u, hu⟩ : ∃ u, u = p j := ⟨_, rfl⟩
    rw [← hu] at e4 e5 e6 e7
    have HUK := Lib.hid hu
    clear hu
    have HB1 : Below w.heap.size w (wr.alloc (.cells #[.bool t.g1, .slice t.a1 t.n1 t.c1, .bool t.g2, .slice t.a2 t.n2 t.c2, .int .u16 t.m0, .int .u16 t.m1, .int .u16 t.m2, .int .u16 t.m3] 68)) := by go_grown
    have c0 : (wr.alloc (.cells #[.bool t.g1, .slice t.a1 t.n1 t.c1, .bool t.g2, .slice t.a2 t.n2 t.c2, .int .u16 t.m0, .int .u16 t.m1, .int .u16 t.m2, .int .u16 t.m3] 68)).cell? ⟨wr.heap.size, 0, none⟩ = some (.bool t.g1) := by simp [go_sem]
    have c1 : (wr.alloc (.cells #[.bool t.g1, .slice t.a1 t.n1 t.c1, .bool t.g2, .slice t.a2 t.n2 t.c2, .int .u16 t.m0, .int .u16 t.m1, .int .u16 t.m2, .int .u16 t.m3] 68)).cell? ⟨wr.heap.size, 1, none⟩ = some (.slice t.a1 t.n1 t.c1) := by simp [go_sem]
    have c2 : (wr.alloc (.cells #[.bool t.g1, .slice t.a1 t.n1 t.c1, .bool t.g2, .slice t.a2 t.n2 t.c2, .int .u16 t.m0, .int .u16 t.m1, .int .u16 t.m2, .int .u16 t.m3] 68)).cell? ⟨wr.heap.size, 2, none⟩ = some (.bool t.g2) := by simp [go_sem]
    have c3 : (wr.alloc (.cells #[.bool t.g1, .slice t.a1 t.n1 t.c1, .bool t.g2, .slice t.a2 t.n2 t.c2, .int .u16 t.m0, .int .u16 t.m1, .int .u16 t.m2, .int .u16 t.m3] 68)).cell? ⟨wr.heap.size, 3, none⟩ = some (.slice t.a2 t.n2 t.c2) := by simp [go_sem]
    have c4 : (wr.alloc (.cells #[.bool t.g1, .slice t.a1 t.n1 t.c1, .bool t.g2, .slice t.a2 t.n2 t.c2, .int .u16 t.m0, .int .u16 t.m1, .int .u16 t.m2, .int .u16 t.m3] 68)).cell? ⟨wr.heap.size, 4, none⟩ = some (.int .u16 t.m0) := by simp [go_sem]
    have c5 : (wr.alloc (.cells #[.bool t.g1, .slice t.a1 t.n1 t.c1, .bool t.g2, .slice t.a2 t.n2 t.c2, .int .u16 t.m0, .int .u16 t.m1, .int .u16 t.m2, .int .u16 t.m3] 68)).cell? ⟨wr.heap.size, 5, none⟩ = some (.int .u16 t.m1) := by simp [go_sem]
    have c6 : (wr.alloc (.cells #[.bool t.g1, .slice t.a1 t.n1 t.c1, .bool t.g2, .slice t.a2 t.n2 t.c2, .int .u16 t.m0, .int .u16 t.m1, .int .u16 t.m2, .int .u16 t.m3] 68)).cell? ⟨wr.heap.size, 6, none⟩ = some (.int .u16 t.m2) := by simp [go_sem]
    have c7 : (wr.alloc (.cells #[.bool t.g1, .slice t.a1 t.n1 t.c1, .bool t.g2, .slice t.a2 t.n2 t.c2, .int .u16 t.m0, .int .u16 t.m1, .int .u16 t.m2, .int .u16 t.m3] 68)).cell? ⟨wr.heap.size, 7, none⟩ = some (.int .u16 t.m3) := by simp [go_sem]
    have hb1 : Below wr.heap.size wr (wr.alloc (.cells #[.bool t.g1, .slice t.a1 t.n1 t.c1, .bool t.g2, .slice t.a2 t.n2 t.c2, .int .u16 t.m0, .int .u16 t.m1, .int .u16 t.m2, .int .u16 t.m3] 68)) := by go_grown
    have e4 := cell_keep hb1 e4
    have e5 := cell_keep hb1 e5
    have e6 := cell_keep hb1 e6
    have e7 := cell_keep hb1 e7
    replace HT := HT.keep hb1
    generalize (wr.alloc (.cells #[.bool t.g1, .slice t.a1 t.n1 t.c1, .bool t.g2, .slice t.a2 t.n2 t.c2, .int .u16 t.m0, .int .u16 t.m1, .int .u16 t.m2, .int .u16 t.m3] 68)) = w1 at *
    generalize wr.heap.size = B at *
    have hs1 : t.n1 < 35184372088829 := by omega
    have hs2 : t.n2 < 35184372088829 := by omega
    replace c0 := growC c0
    replace c1 := growC c1
    replace c2 := growC c2
    replace c3 := growC c3
    replace c4 := growC c4
    replace c5 := growC c5
    replace c6 := growC c6
    replace c7 := growC c7
    replace e4 := growC e4
    replace e5 := growC e5
    replace e6 := growC e6
    replace e7 := growC e7
    clear hb1 hpr HBr
    by_cases hF0 : FOk t.g1 t.d1 t.g2 t.d2
    ·have hF := Lib.hid hF0
     have HA := fracAt_of HT.top HT.low hF0
     have hsz := sgn_zero hF0.1
     generalize (if t.g1 then -(val t.d1 : Int) else (val t.d1 : Int)) = z at *
     clear hF0
     by_cases hz0 : z = 0
     ·have hd0 := Lib.hid (hsz.1 hz0)
      have hz : cmpI z 0 = 0 := by rw [hz0]; exact cmpI_eq 0
      have hr0 : r = false := by
       cases r
       ·rfl
       ·exact absurd hd0.out (by have := (HR.out.2 rfl _ hlt).1.2; rw [HTK.out]; exact this)
      subst hr0
      clear hz0 hsz
      (refine wp_region_grow qG qG ?_; (repeat (go_big_quiet_step (first | (go_at_call 93; exact growL (fCheck_c _ t.g1 t.a1 t.n1 t.c1 t.d1 (HT.top.keep (Subtype.property _)) t.g2 t.a2 t.n2 t.c2 t.d2 (HT.low.keep (Subtype.property _)) hs2 hs1 true ⟨fun _ => rfl, fun _ => hF.out⟩)) | (go_at_call 31; exact growL (fSign_c _ _ _ _ _ _ _ _ _ _ _ (HA.keep (Subtype.property _)) hs2 hs1)) | (go_at_call 94; exact growL (falls_c _ _ _ _ _ _ _ _ _))))); refine wpQuiet_nil ?_; intro _ hw0; obtain ⟨nq, hw0⟩ := hw0; subst hw0)
      go_wp2_with fail
      go_ret
      exact ⟨rfl, HB1.trans (nq.2.mono HB1.size)⟩
     ·have hd0 := Lib.hid (fun e => hz0 (hsz.2 e))
      have hz : (cmpI z 0 == 0) = false := by rw [beq_eq_false_iff_ne]; exact fun e => hz0 (cmpI_zero.1 e)
      clear hz0 hsz
      by_cases hl0 : lexF (quad t.m0 t.m1 t.m2 t.m3) (quad u.m0 u.m1 u.m2 u.m3) < 0
      ·have hl := Lib.hid hl0
       have hl1 : decide (0 ≤ lexF (quad t.m0 t.m1 t.m2 t.m3) (quad u.m0 u.m1 u.m2 u.m3)) = false := by rw [decide_eq_false_iff_not]; omega
       clear hl0
       (refine wp_region_grow qG qG ?_; (repeat (go_big_quiet_step (first | (go_at_call 93; exact growL (fCheck_c _ t.g1 t.a1 t.n1 t.c1 t.d1 (HT.top.keep (Subtype.property _)) t.g2 t.a2 t.n2 t.c2 t.d2 (HT.low.keep (Subtype.property _)) hs2 hs1 true ⟨fun _ => rfl, fun _ => hF.out⟩)) | (go_at_call 31; exact growL (fSign_c _ _ _ _ _ _ _ _ _ _ _ (HA.keep (Subtype.property _)) hs2 hs1)) | (go_at_call 94; exact growL (falls_c _ _ _ _ _ _ _ _ _))))); refine wpQuiet_nil ?_; intro _ hw0; obtain ⟨nq, hw0⟩ := hw0; subst hw0)
       go_wp2_with fail
       go_roundw
       case rel => exact ⟨j + 1 + 1, by omega, by simp, HB1.trans (nq.2.mono HB1.size), Lib.hid (fun i hi => by
       rcases Nat.lt_or_ge i (j + 1) with h | h
       ·exact he.out i h
       ·obtain rfl : i = j + 1 := by omega
        exact ⟨by rw [← HTK.out]; exact ⟨hF.out, hd0.out⟩, fun _ => by rw [← HTK.out, Nat.add_sub_cancel, ← HUK.out]; exact hl.out⟩)⟩
       case measure => simp [intOf]; omega
      ·have hl1 : decide (0 ≤ lexF (quad t.m0 t.m1 t.m2 t.m3) (quad u.m0 u.m1 u.m2 u.m3)) = true := by rw [decide_eq_true_iff]; omega
       have hr0 : r = false := by
        cases r
        ·rfl
        ·refine absurd ((HR.out.2 rfl _ hlt).2 qB) ?_
         rw [← HTK.out, Nat.add_sub_cancel, ← HUK.out]; exact hl0
       subst hr0
       clear hl0
       (refine wp_region_grow qG qG ?_; (repeat (go_big_quiet_step (first | (go_at_call 93; exact growL (fCheck_c _ t.g1 t.a1 t.n1 t.c1 t.d1 (HT.top.keep (Subtype.property _)) t.g2 t.a2 t.n2 t.c2 t.d2 (HT.low.keep (Subtype.property _)) hs2 hs1 true ⟨fun _ => rfl, fun _ => hF.out⟩)) | (go_at_call 31; exact growL (fSign_c _ _ _ _ _ _ _ _ _ _ _ (HA.keep (Subtype.property _)) hs2 hs1)) | (go_at_call 94; exact growL (falls_c _ _ _ _ _ _ _ _ _))))); refine wpQuiet_nil ?_; intro _ hw0; obtain ⟨nq, hw0⟩ := hw0; subst hw0)
       go_wp2_with fail
       go_ret
       exact ⟨rfl, HB1.trans (nq.2.mono HB1.size)⟩
    ·exact qBn
  ·obtain rfl : k = n := by omega
   have hr := HR.out.1 he.out
   subst hr
   go_wp2_with fail
   go_ret
   exact ⟨rfl, HBr⟩
end Go.Proofs.YtdamegaedmckbaaGreatDoor
end
section
namespace Go.Proofs.YtdamegaedmckbaaGreatDoor
open Go.RowKit
theorem pof_c (w : World) (a : Option Addr) (n c : Nat) (p : Nat → Tm) (hp : RdP w a n c p) (hsm : ∀ k, k < n → (p k).n1 ≤ 1000000 ∧ (p k).n2 ≤ 1000000) (r : Bool) (hr : POk p n ↔ r = true) :
  Calls Tryz.prog 103 #[.slice a n c] w fun e w' => e = .returned (if r then .slice a n c else .slice none 0 0) ∧ Below w.heap.size w w' := by
 have HB := Below.refl w.heap.size w
 have HR := Lib.hid hr
 have HS := Lib.hid hsm
 clear hr hsm
 go_enter Tryz.func103, Tryz.ntmps103
 go_wp2_with fail
 refine (pCheck_c _ a n c p hp HS.out r HR.out).mono ?_
 rintro e w1 ⟨rfl, hb⟩
 cases r with
 | true =>
  go_wp2_with fail
  exact bodyPost_ret (v := .slice a n c) (by simp [results, Tryz.results103, go_sem]) rfl ⟨rfl, by go_grown⟩
 | false =>
  go_wp2_with fail
  exact bodyPost_ret (v := .slice none 0 0) (by simp [results, Tryz.results103, go_sem]) rfl ⟨rfl, by go_grown⟩
end Go.Proofs.YtdamegaedmckbaaGreatDoor
end
section
namespace Go.Proofs.YtdamegaedmckbaaGreatDoor
open Go.RowKit
def key4 (a b c d : Nat) : Nat := ((a * 65536 + b) * 65536 + c) * 65536 + d
theorem key4_lt {a b c d : Nat} (ha : a < 65536) (hb : b < 65536) (hc : c < 65536) (hd : d < 65536) : key4 a b c d < 18446744073709551616 := by unfold key4; omega
theorem key4_inj {a b c d a' b' c' d' : Nat} (ha : a < 65536) (hb : b < 65536) (hc : c < 65536) (hd : d < 65536) (ha' : a' < 65536) (hb' : b' < 65536) (hc' : c' < 65536) (hd' : d' < 65536) (h : key4 a b c d = key4 a' b' c' d') : a = a' ∧ b = b' ∧ c = c' ∧ d = d' := by
 unfold key4 at h; omega
theorem cmpI_cast (a b : Nat) : cmpI (a : Int) (b : Int) = if a < b then -1 else if a = b then 0 else 1 := by
 unfold cmpI
 by_cases h1 : a < b
 ·rw [if_pos qB, if_pos h1]
 ·rw [if_neg qB, if_neg h1]
  by_cases h2 : a = b
  ·rw [if_pos qB, if_pos h2]
  ·rw [if_neg qB, if_neg h2]
theorem lexF_key {a b c d a' b' c' d' : Nat} (ha : a < 65536) (hb : b < 65536) (hc : c < 65536) (hd : d < 65536) (ha' : a' < 65536) (hb' : b' < 65536) (hc' : c' < 65536) (hd' : d' < 65536) :
  lexF (quad a b c d) (quad a' b' c' d') = cmpI (key4 a b c d : Nat) (key4 a' b' c' d' : Nat) := by
 unfold lexF
 simp only [quad, cmpI_cast, ne_eq, Int.natCast_inj]
 by_cases h1 : a = a'
 ·by_cases h2 : b = b'
  ·by_cases h3 : c = c'
   ·by_cases h4 : d = d'
    ·subst h1 h2 h3 h4; simp
    ·subst h1 h2 h3
     rw [if_neg qH, if_neg qH, if_neg qH, if_pos (by simpa using h4)]
     unfold key4
     by_cases h : d < d'
     ·rw [if_pos h, if_pos qB]
     ·rw [if_neg h, if_neg h4, if_neg qB, if_neg qB]
   ·subst h1 h2
    rw [if_neg qH, if_neg qH, if_pos (by simpa using h3)]
    unfold key4
    by_cases h : c < c'
    ·rw [if_pos h, if_pos qB]
    ·rw [if_neg h, if_neg h3, if_neg qB, if_neg qB]
  ·subst h1
   rw [if_neg qH, if_pos (by simpa using h2)]
   unfold key4
   by_cases h : b < b'
   ·rw [if_pos h, if_pos qB]
   ·rw [if_neg h, if_neg h2, if_neg qB, if_neg qB]
 ·rw [if_pos (by simpa using h1)]
  unfold key4
  by_cases h : a < a'
  ·rw [if_pos h, if_pos qB]
  ·rw [if_neg h, if_neg h1, if_neg qB, if_neg qB]
abbrev Nw (B n : Nat) (a : Option Addr) : Prop := n = 0 ∨ NewA B a
theorem Nw.mono {B B' n : Nat} {a : Option Addr} (h : Nw B n a) (hB : B' ≤ B) : Nw B' n a := h.imp id (·.mono hB)
theorem RdL.butR {w w' : World} {a : Option Addr} {n c : Nat} {d : List Nat} {row : Option Nat} {B : Nat} (h : RdL w a n c d) (hn : Nw B n a) (hg : w.grownBy w' row) (hr : ∀ k, row = some k → k < B) : RdL w' a n c d := by
 refine ⟨h.len, h.cap, h.few, h.top, h.small, ?_⟩
 rcases h.cell with h0 | ⟨b, o, ha, hc⟩
 ·exact .inl h0
 ·rcases hn with h0 | hn
  ·exact .inl h0
  ·refine .inr ⟨b, o, ha, fun i hi => hg.cell (hc i hi) fun e => ?_⟩
   have h1 := hr _ e.symm
   have h2 := hn _ ha
   simp at h1 h2
   omega
theorem NumAt.butR {w w' : World} {g : Bool} {a : Option Addr} {n c : Nat} {z : Int} {row : Option Nat} {B : Nat} (h : NumAt w g a n c z) (hn : Nw B n a) (hg : w.grownBy w' row) (hr : ∀ k, row = some k → k < B) : NumAt w' g a n c z := ⟨h.neg, h.rd.butR hn hg hr⟩
theorem FracAt.butR {w w' : World} {g1 : Bool} {a1 : Option Addr} {n1 c1 : Nat} {p : Int} {g2 : Bool} {a2 : Option Addr} {n2 c2 : Nat} {q : Int} {row : Option Nat} {B : Nat} (h : FracAt w g1 a1 n1 c1 p g2 a2 n2 c2 q) (h1 : Nw B n1 a1) (h2 : Nw B n2 a2) (hg : w.grownBy w' row) (hr : ∀ k, row = some k → k < B) : FracAt w' g1 a1 n1 c1 p g2 a2 n2 c2 q :=
 ⟨h.top.butR h1 hg hr, h.low.butR h2 hg hr, h.pos, h.red⟩
structure TmIs (t : Tm) (x : PT) : Prop where
 g1 : t.g1 = decide (x.2.1 < 0)
 d1 : t.d1 = dg x.2.1.natAbs
 g2 : t.g2 = decide (x.2.2 < 0)
 d2 : t.d2 = dg x.2.2.natAbs
 key : key4 t.m0 t.m1 t.m2 t.m3 = x.1
theorem TmIs.frac {w : World} {t : Tm} {x : PT} (h : TmIs t x) (hr : RdTm w t) (hc : CW x.2) : FracAt w t.g1 t.a1 t.n1 t.c1 x.2.1 t.g2 t.a2 t.n2 t.c2 x.2.2 :=
 ⟨⟨h.g1, h.d1 ▸ hr.top⟩, ⟨h.g2, h.d2 ▸ hr.low⟩, hc.pos, hc.red⟩
def FewL (K : Nat) (l : List PT) : Prop := ∀ t ∈ l, (dg t.2.1.natAbs).length ≤ K ∧ (dg t.2.2.natAbs).length ≤ K
structure PolyAt (w : World) (B : Nat) (a : Option Addr) (n c : Nat) (l : List PT) : Prop where
 len : l.length = n
 base : Nw B n a
 nl : a = none → c = 0
 ts : ∃ p : Nat → Tm, RdP w a n c p ∧ ∀ i x, l[i]? = some x → TmIs (p i) x ∧ Nw B (p i).n1 (p i).a1 ∧ Nw B (p i).n2 (p i).a2
theorem PolyAt.keep {w w' : World} {B : Nat} {a : Option Addr} {n c : Nat} {l : List PT} (h : PolyAt w B a n c l) (hb : Below w.heap.size w w') : PolyAt w' B a n c l := by
 obtain ⟨p, hp, hx⟩ := h.ts
 exact ⟨h.len, h.base, h.nl, p, hp.keep hb, hx⟩
theorem PolyAt.mono {w : World} {B B' : Nat} {a : Option Addr} {n c : Nat} {l : List PT} (h : PolyAt w B a n c l) (hB : B' ≤ B) : PolyAt w B' a n c l := by
 obtain ⟨p, hp, hx⟩ := h.ts
 exact ⟨h.len, h.base.mono hB, h.nl, p, hp, fun i x hi => ⟨(hx i x hi).1, (hx i x hi).2.1.mono hB, (hx i x hi).2.2.mono hB⟩⟩
theorem TmAt.butR {w w' : World} {b o : Nat} {t : Tm} {row : Option Nat} (h : TmAt w b o t) (hg : w.grownBy w' row) (hr : some b ≠ row) : TmAt w' b o t :=
 ⟨hg.cell h.e0 hr, hg.cell h.e1 hr, hg.cell h.e2 hr, hg.cell h.e3 hr, hg.cell h.e4 hr, hg.cell h.e5 hr, hg.cell h.e6 hr, hg.cell h.e7 hr⟩
theorem PolyAt.butR {w w' : World} {B : Nat} {a : Option Addr} {n c : Nat} {l : List PT} {row : Option Nat} (h : PolyAt w B a n c l) (hg : w.grownBy w' row) (hr : ∀ k, row = some k → k < B) : PolyAt w' B a n c l := by
 obtain ⟨p, hp, hx⟩ := h.ts
 refine ⟨h.len, h.base, h.nl, p, ⟨hp.cap, hp.few, hp.top, fun i hi => ?_, ?_⟩, hx⟩
 ·obtain ⟨x, hxi⟩ : ∃ x, l[i]? = some x := ⟨l[i]'(by rw [h.len]; exact hi), List.getElem?_eq_getElem _⟩
  have ht := hp.tm i hi
  obtain ⟨_, k1, k2⟩ := hx i x hxi
  exact ⟨ht.top.butR k1 hg hr, ht.low.butR k2 hg hr, ht.s0, ht.s1, ht.s2, ht.s3⟩
 ·rcases hp.cell with h0 | ⟨b, o, ha, hc⟩
  ·exact .inl h0
  ·rcases h.base with h0 | hn
   ·exact .inl h0
   ·refine .inr ⟨b, o, ha, fun i hi => (hc i hi).butR hg fun e => ?_⟩
    have h1 := hr _ e.symm
    have h2 := hn _ ha
    simp at h2
    omega
theorem PolyAt.nil (w : World) (B : Nat) : PolyAt w B none 0 0 [] :=
 ⟨rfl, .inl rfl, fun _ => rfl, fun _ => ⟨false, none, 0, 0, [], false, none, 0, 0, [], 0, 0, 0, 0⟩, ⟨Nat.le_refl _, by omega, by omega, fun i hi => by omega, .inl rfl⟩, fun i x hi => by simp at hi⟩
theorem dg_ne_nil {n : Nat} (h : n ≠ 0) : dg n ≠ [] := by
 intro e
 have := val_dg n
 rw [e, val] at this
 omega
theorem FracAt.tok {w : World} {t : Tm} {x : PT} (h : TmIs t x) (hr : RdTm w t) (hc : CW x.2) (h0 : x.2.1 ≠ 0) : TOk t := by
 have := (h.frac hr hc).ok
 rw [← h.d1, ← h.d2] at this
 refine ⟨this, ?_⟩
 rw [h.d1]
 exact dg_ne_nil qB
theorem PolyAt.pok {w : World} {B : Nat} {a : Option Addr} {n c : Nat} {l : List PT} (h : PolyAt w B a n c l) (hl : PW l) {p : Nat → Tm} (hp : RdP w a n c p) (hx : ∀ i x, l[i]? = some x → TmIs (p i) x ∧ Nw B (p i).n1 (p i).a1 ∧ Nw B (p i).n2 (p i).a2) : POk p n := by
 intro j hj
 have hjl : j < l.length := by rw [h.len]; exact hj
 have e : l[j]? = some l[j] := List.getElem?_eq_getElem hjl
 have hg := hl.good l[j] (List.getElem_mem hjl)
 have hrj := hp.tm j hj
 refine ⟨FracAt.tok (hx j _ e).1 hrj hg.1 hg.2, fun hj0 => ?_⟩
 have hk : j - 1 < l.length := by omega
 have e' : l[j - 1]? = some l[j - 1] := List.getElem?_eq_getElem hk
 have hrk := hp.tm (j - 1) qB
 have hlt : l[j].1 < l[j - 1].1 := List.pairwise_iff_getElem.1 hl.falls (j - 1) j hk hjl qB
 unfold Tm.mono
 rw [lexF_key hrj.s0 hrj.s1 hrj.s2 hrj.s3 hrk.s0 hrk.s1 hrk.s2 hrk.s3, (hx j _ e).1.key, (hx (j - 1) _ e').1.key]
 rw [cmpI_lt qB]
 decide
theorem PolyAt.few {w : World} {B : Nat} {a : Option Addr} {n c : Nat} {l : List PT} (h : PolyAt w B a n c l) {K : Nat} (hK : FewL K l) {p : Nat → Tm} (hp : RdP w a n c p) (hx : ∀ i x, l[i]? = some x → TmIs (p i) x ∧ Nw B (p i).n1 (p i).a1 ∧ Nw B (p i).n2 (p i).a2) : ∀ k, k < n → (p k).n1 ≤ K ∧ (p k).n2 ≤ K := by
 intro j hj
 have hjl : j < l.length := by rw [h.len]; exact hj
 have e : l[j]? = some l[j] := List.getElem?_eq_getElem hjl
 have hk := hK l[j] (List.getElem_mem hjl)
 have ht := (hx j _ e).1
 have hr := hp.tm j hj
 have h1 := hr.top.len
 have h2 := hr.low.len
 rw [ht.d1] at h1
 rw [ht.d2] at h2
 omega
end Go.Proofs.YtdamegaedmckbaaGreatDoor
end
section
namespace Go.Proofs.YtdamegaedmckbaaGreatDoor
open Go.RowKit
theorem dg_one_len : (dg 1).length = 1 := by rw [dg_pos qB, show 1 / 1000000000 = 0 from rfl, dg_zero]; rfl
theorem low_le (a b : Int) (hb : 0 < b) : (dg (lowP a b).natAbs).length ≤ (dg a.natAbs).length ∧ (dg (lowQ a b).natAbs).length ≤ (dg b.natAbs).length := by
 unfold lowP lowQ
 have h1 : (a / (Int.gcd a b : Int)).natAbs ≤ a.natAbs := Int.natAbs_ediv_le_natAbs ..
 have h2 : (b / (Int.gcd a b : Int)).natAbs ≤ b.natAbs := Int.natAbs_ediv_le_natAbs ..
 exact ⟨dg_length_mono h1, dg_length_mono h2⟩
def FewC (K : Nat) (c : PC) : Prop := (dg c.1.natAbs).length ≤ K ∧ (dg c.2.natAbs).length ≤ K
theorem FewC.mono {K K' : Nat} {c : PC} (h : FewC K c) (hK : K ≤ K') : FewC K' c := ⟨Nat.le_trans h.1 hK, Nat.le_trans h.2 hK⟩
theorem dg_len_add_max (x y K : Nat) (hx : (dg x).length ≤ K) (hy : (dg y).length ≤ K) : (dg (x + y)).length ≤ K + 1 := by
 have h2 : (dg 2).length = 1 := by rw [dg_pos qB, show 2 / 1000000000 = 0 from rfl, dg_zero]; rfl
 rcases Nat.le_total x y with h | h
 ·have e1 := dg_length_mono (show x + y ≤ 2 * y by omega)
  have e2 := dg_len_mul 2 y
  omega
 ·have e1 := dg_length_mono (show x + y ≤ 2 * x by omega)
  have e2 := dg_len_mul 2 x
  omega
theorem dg_len_addI_max (x y : Int) (K : Nat) (hx : (dg x.natAbs).length ≤ K) (hy : (dg y.natAbs).length ≤ K) : (dg (x + y).natAbs).length ≤ K + 1 := by
 have e := dg_len_add_max x.natAbs y.natAbs K hx hy
 have := dg_length_mono (Int.natAbs_add_le x y)
 omega
theorem FewC.add {K1 K2 : Nat} {c d : PC} (hc : CW c) (hd : CW d) (h1 : FewC K1 c) (h2 : FewC K2 d) : FewC (K1 + K2 + 1) (addC c d) := by
 have hp : 0 < c.2 * d.2 := Int.mul_pos hc.pos hd.pos
 obtain ⟨a1, a2⟩ := low_le (c.1 * d.2 + d.1 * c.2) (c.2 * d.2) hp
 obtain ⟨b1, b2⟩ := h1
 obtain ⟨b3, b4⟩ := h2
 have e2 := dg_len_mulI c.1 d.2
 have e3 := dg_len_mulI d.1 c.2
 have e4 := dg_len_mulI c.2 d.2
 have e1 := dg_len_addI_max (c.1 * d.2) (d.1 * c.2) (K1 + K2) qB qB
 refine ⟨?_, ?_⟩
 ·show (dg (lowP (c.1 * d.2 + d.1 * c.2) (c.2 * d.2)).natAbs).length ≤ _; omega
 ·show (dg (lowQ (c.1 * d.2 + d.1 * c.2) (c.2 * d.2)).natAbs).length ≤ _; omega
theorem FewC.mul {K1 K2 : Nat} {c d : PC} (hc : CW c) (hd : CW d) (h1 : FewC K1 c) (h2 : FewC K2 d) : FewC (K1 + K2) (mulC c d) := by
 have hp : 0 < c.2 * d.2 := Int.mul_pos hc.pos hd.pos
 obtain ⟨a1, a2⟩ := low_le (c.1 * d.1) (c.2 * d.2) hp
 have e2 := dg_len_mulI c.1 d.1
 have e4 := dg_len_mulI c.2 d.2
 obtain ⟨b1, b2⟩ := h1
 obtain ⟨b3, b4⟩ := h2
 refine ⟨?_, ?_⟩
 ·show (dg (lowP (c.1 * d.1) (c.2 * d.2)).natAbs).length ≤ _; omega
 ·show (dg (lowQ (c.1 * d.1) (c.2 * d.2)).natAbs).length ≤ _; omega
theorem FewL.mono {K K' : Nat} {l : List PT} (h : FewL K l) (hK : K ≤ K') : FewL K' l := fun t ht => FewC.mono (h t ht) hK
theorem FewL.add {K1 K2 : Nat} (a b : List PT) (ha : Good a) (hb : Good b) (h1 : FewL K1 a) (h2 : FewL K2 b) : FewL (K1 + K2 + 1) (addL a b) := by
 induction a, b using addL.induct with
 | case1 b => rw [addL]; exact h2.mono qB
 | case2 x a => rw [addL]; exact h1.mono qB
 | case3 x a y b hlt ih =>
  rw [addL, if_pos hlt]
  intro t ht
  rcases List.mem_cons.1 ht with rfl | ht
  ·exact FewC.mono (h1 _ qH) qB
  ·exact ih (fun t h => ha t (by simp [h])) hb (fun t h => h1 t (by simp [h])) h2 t ht
 | case4 x a y b hn hlt ih =>
  rw [addL, if_neg hn, if_pos hlt]
  intro t ht
  rcases List.mem_cons.1 ht with rfl | ht
  ·exact FewC.mono (h2 _ qH) qB
  ·exact ih ha (fun t h => hb t (by simp [h])) h1 (fun t h => h2 t (by simp [h])) t ht
 | case5 x a y b hn hm h3 ih =>
  rw [addL, if_neg hn, if_neg hm, if_pos h3]
  exact ih (fun t h => ha t (by simp [h])) (fun t h => hb t (by simp [h])) (fun t h => h1 t (by simp [h])) (fun t h => h2 t (by simp [h]))
 | case6 x a y b hn hm h3 ih =>
  rw [addL, if_neg hn, if_neg hm, if_neg h3]
  intro t ht
  rcases List.mem_cons.1 ht with rfl | ht
  ·exact FewC.add (ha x qH).1 (hb y qH).1 (h1 x qH) (h2 y qH)
  ·exact ih (fun t h => ha t (by simp [h])) (fun t h => hb t (by simp [h])) (fun t h => h1 t (by simp [h])) (fun t h => h2 t (by simp [h])) t ht
end Go.Proofs.YtdamegaedmckbaaGreatDoor
end
section
namespace Go.Proofs.YtdamegaedmckbaaGreatDoor
open Go.RowKit
def numN (d : List UInt8) : Nat := d.foldl (fun n b => 10 * n + (b.toNat - 48)) 0
def numZ (d : List UInt8) : Nat := if 200 < d.length then 0 else numN d
def rdNum (L : List UInt8) (many : Bool) : Option (List UInt8 × List UInt8 × Bool) :=
 if digitsB (L.takeWhile isDig) then some (L.takeWhile isDig, L.dropWhile isDig, many || decide (200 < (L.takeWhile isDig).length)) else none
def rdPos (L : List UInt8) (many : Bool) : Option (List UInt8 × List UInt8 × Bool) :=
 match rdNum L many with
 | none => none
 | some (d, r, m) => if d = [48] then none else some (d, r, m)
def rdPow (L : List UInt8) (many : Bool) : Option (Nat × List UInt8 × Bool) :=
 if headIs L 94 then
  match rdPos L.tail many with
  | none => none
  | some (d, r, m) => if 1000 < numN d then some (0, r, true) else some (numN d, r, m)
 else some (1, L, many)
def mkFr (n d : Nat) : PC := if d = 0 then (0, 1) else (lowP n d, lowQ n d)
def rdFrac (L : List UInt8) (many : Bool) : Option (PC × List UInt8 × Bool) :=
 match rdNum L many with
 | none => none
 | some (t, r, m) =>
  if headIs r 47 then
   match rdPos r.tail m with
   | none => none
   | some (l, r', m') => some (mkFr (numZ t) (numZ l), r', m')
  else some (mkFr (numZ t) 1, r, m)
def letterOf (b : UInt8) : Option Nat :=
 if b = 120 then some 0 else if b = 121 then some 1 else if b = 122 then some 2 else if b = 116 then some 3 else none
structure TS where
 c : PC
 o : Nat → Nat
 L : List UInt8
 many : Bool
def bump (o : Nat → Nat) (i n : Nat) : Nat → Nat := fun k => if k = i then o i + n else o k
def rdFactor (s : TS) : Option TS :=
 match s.L with
 | [] => none
 | b :: r =>
  match letterOf b with
  | some i => match rdPow r s.many with
   | none => none
   | some (n, r', m) => some ⟨s.c, bump s.o i n, r', m⟩
  | none => match rdFrac (b :: r) s.many with
   | none => none
   | some (c, r', m) => some ⟨mulC s.c c, s.o, r', m⟩
def skp (L : List UInt8) : List UInt8 := L.dropWhile isBlk
theorem skp_le (L : List UInt8) : (skp L).length ≤ L.length := (List.dropWhile_sublist _).length_le
theorem rdNum_len {L : List UInt8} {many : Bool} {d r : List UInt8} {m : Bool} (h : rdNum L many = some (d, r, m)) : d.length + r.length = L.length ∧ 0 < d.length := by
 unfold rdNum at h
 split at h
 ·next hd =>
  simp only [Option.some.injEq, Prod.mk.injEq] at h
  obtain ⟨rfl, rfl, _⟩ := h
  refine ⟨?_, ?_⟩
  ·rw [← List.length_append, List.takeWhile_append_dropWhile]
  ·cases he : L.takeWhile isDig with
   | nil => rw [he] at hd; simp [digitsB] at hd
   | cons b t => simp
 ·cases h
theorem rdPos_len {L : List UInt8} {many : Bool} {d r : List UInt8} {m : Bool} (h : rdPos L many = some (d, r, m)) : d.length + r.length = L.length ∧ 0 < d.length := by
 unfold rdPos at h
 split at h
 ·cases h
 ·next d' r' m' h' =>
  split at h
  ·cases h
  ·cases h; exact rdNum_len h'
theorem rdPow_len {L : List UInt8} {many : Bool} {n : Nat} {r : List UInt8} {m : Bool} (h : rdPow L many = some (n, r, m)) : r.length ≤ L.length := by
 unfold rdPow at h
 split at h
 ·split at h
  ·cases h
  ·next d r' m' h' =>
   have h1 := rdPos_len h'
   have h2 : L.tail.length ≤ L.length := by simp
   split at h <;> cases h <;> omega
 ·cases h; exact Nat.le_refl _
theorem rdFrac_len {L : List UInt8} {many : Bool} {c : PC} {r : List UInt8} {m : Bool} (h : rdFrac L many = some (c, r, m)) : r.length < L.length := by
 unfold rdFrac at h
 split at h
 ·cases h
 ·next t r' m' h' =>
  have h1 := rdNum_len h'
  split at h
  ·split at h
   ·cases h
   ·next l r'' m'' h'' =>
    have h2 := rdPos_len h''
    have h3 : r'.tail.length ≤ r'.length := by simp
    cases h; omega
  ·cases h; omega
theorem rdFactor_len {s t : TS} (h : rdFactor s = some t) : t.L.length < s.L.length := by
 unfold rdFactor at h
 split at h
 ·cases h
 ·next b r hL =>
  rw [hL]
  split at h
  ·split at h
   ·cases h
   ·next n r' m h' =>
    have := rdPow_len h'
    cases h
    simp; omega
  ·split at h
   ·cases h
   ·next c r' m h' =>
    have := rdFrac_len h'
    cases h
    simpa using this
def rdLoop (s : TS) : Option TS :=
 if startsL s.L then
  match h : rdFactor s with
  | none => none
  | some t =>
   if headIs (skp t.L) 42 then rdLoop { t with L := skp (skp t.L).tail }
   else if startsL (skp t.L) then rdLoop { t with L := skp t.L }
   else some { t with L := skp t.L }
 else none
termination_by s.L.length
decreasing_by
 ·have h1 := rdFactor_len h
  have h2 := skp_le t.L
  have h3 := skp_le (skp t.L).tail
  have h4 : (skp t.L).tail.length ≤ (skp t.L).length := by simp
  show (skp (skp t.L).tail).length < s.L.length
  omega
 ·have h1 := rdFactor_len h
  have h2 := skp_le t.L
  show (skp t.L).length < s.L.length
  omega
def over (o : Nat → Nat) : Bool := decide (65535 < o 0) || decide (65535 < o 1) || decide (65535 < o 2) || decide (65535 < o 3)
def clamp (n : Nat) : Nat := min n 65535
def keyO (o : Nat → Nat) : Nat := key4 (clamp (o 0)) (clamp (o 1)) (clamp (o 2)) (clamp (o 3))
def oneT (k : Nat) (c : PC) : List PT := if c.1 = 0 then [] else [(k, c)]
def rdTerm (L : List UInt8) (many neg : Bool) : Option (List PT × List UInt8 × Bool) :=
 match rdLoop ⟨(if neg then -1 else 1, 1), fun _ => 0, skp L, many⟩ with
 | none => none
 | some t => some (oneT (keyO t.o) t.c, t.L, t.many || over t.o)
theorem rdLoop_len (s : TS) {t : TS} (h : rdLoop s = some t) : t.L.length < s.L.length := by
 induction s using rdLoop.induct with
 | case1 s hs hn => rw [rdLoop, if_pos hs] at h; split at h <;> simp_all
 | case2 s hs u hu h42 ih =>
  rw [rdLoop, if_pos hs] at h
  split at h
  ·cases h
  ·next u' hu' =>
   have : u' = u := by rw [hu'] at hu; exact Option.some.inj hu
   subst this
   rw [if_pos h42] at h
   have h1 := rdFactor_len hu'
   have h2 := skp_le u'.L
   have h3 := skp_le (skp u'.L).tail
   have h4 : (skp u'.L).tail.length ≤ (skp u'.L).length := by simp
   have h5 := ih h
   simp only at h5
   omega
 | case3 s hs u hu h42 hst ih =>
  rw [rdLoop, if_pos hs] at h
  split at h
  ·cases h
  ·next u' hu' =>
   have : u' = u := by rw [hu'] at hu; exact Option.some.inj hu
   subst this
   rw [if_neg h42, if_pos hst] at h
   have h1 := rdFactor_len hu'
   have h2 := skp_le u'.L
   have h5 := ih h
   simp only at h5
   omega
 | case4 s hs u hu h42 hst =>
  rw [rdLoop, if_pos hs] at h
  split at h
  ·cases h
  ·next u' hu' =>
   have : u' = u := by rw [hu'] at hu; exact Option.some.inj hu
   subst this
   rw [if_neg h42, if_neg hst] at h
   cases h
   have h1 := rdFactor_len hu'
   have h2 := skp_le u'.L
   simp only
   omega
 | case5 s hs => rw [rdLoop, if_neg hs] at h; cases h
theorem rdTerm_len {L : List UInt8} {many neg : Bool} {l : List PT} {r : List UInt8} {m : Bool} (h : rdTerm L many neg = some (l, r, m)) : r.length < L.length := by
 unfold rdTerm at h
 split at h
 ·cases h
 ·next t ht =>
  have h1 := rdLoop_len _ ht
  have h2 := skp_le L
  cases h
  simp only at h1
  omega
def rdMore (p : List PT) (L : List UInt8) (many : Bool) : Option (List PT × Bool) :=
 match L with
 | [] => some (p, many)
 | b :: r =>
  if b = 45 ∨ b = 43 then
   match h : rdTerm r many (b = 45) with
   | none => none
   | some (l, r', m) => rdMore (addL p l) r' m
  else none
termination_by L.length
decreasing_by
 have := rdTerm_len h
 simp; omega
def rdSum (L : List UInt8) : Option (List PT × Bool) :=
 match rdTerm (if headIs (skp L) 45 then (skp L).tail else skp L) false (headIs (skp L) 45) with
 | none => none
 | some (l, r, m) => rdMore l r m
def rdText (L : List UInt8) : List PT × Int :=
 if 65536 < L.length then ([], 3) else
  match rdSum L with
  | none => ([], 4)
  | some (l, m) => if m then ([], 3) else (l, 0)
end Go.Proofs.YtdamegaedmckbaaGreatDoor
end
