/- The document's answer, layer 4: Check, Fit, where every number below has one part at most. -/
import Derived.Test.YtdamegaedmckbaaGreatDoorS22
import Derived.Test.YtdamegaedmckbaaGreatDoorS37
import Derived.Test.YtdamegaedmckbaaGreatDoorS38
set_option linter.unusedSimpArgs false
set_option linter.unusedVariables false
set_option linter.unusedSimpArgs false
set_option linter.unusedVariables false
namespace Go.Proofs.YtdamegaedmckbaaGreatDoor
open Go.RowKit

theorem cmpI_swap (x y : Int) : cmpI y x = -cmpI x y := by
  rcases Int.lt_trichotomy x y with h | h | h
  · rw [cmpI_lt h, cmpI_gt h]; rfl
  · rw [h, cmpI_eq]; rfl
  · rw [cmpI_gt h, cmpI_lt h]

theorem lexF_swap_at (f g : Nat → Int) (k : Nat) (hk : k < 4) (h : ∀ j, j < k → f j = g j) (hne : f k ≠ g k) : lexF g f = -lexF f g := by
  rw [lexF_at hk (fun j hj => (h j hj).symm) (fun e => hne e.symm), lexF_at hk h hne, cmpI_swap]

theorem lexF_swap (f g : Nat → Int) : lexF g f = -lexF f g := by
  by_cases h0 : f 0 = g 0
  · by_cases h1 : f 1 = g 1
    · by_cases h2 : f 2 = g 2
      · have H : ∀ j, j < 3 → f j = g j := fun j hj => by
          match j, hj with
          | 0, _ => exact h0
          | 1, _ => exact h1
          | 2, _ => exact h2
        by_cases h3 : f 3 = g 3
        · have H4 : ∀ j, j < 4 → f j = g j := fun j hj => by
            rcases Nat.lt_or_ge j 3 with h | h
            · exact H j h
            · obtain rfl : j = 3 := by omega
              exact h3
          rw [lexF_eq (fun j hj => (H4 j hj).symm), lexF_eq H4]; rfl
        · exact lexF_swap_at f g 3 (by omega) H h3
      · refine lexF_swap_at f g 2 (by omega) (fun j hj => ?_) h2
        match j, hj with
        | 0, _ => exact h0
        | 1, _ => exact h1
    · refine lexF_swap_at f g 1 (by omega) (fun j hj => ?_) h1
      match j, hj with
      | 0, _ => exact h0
  · exact lexF_swap_at f g 0 (by omega) (fun j hj => absurd hj (Nat.not_lt_zero _)) h0

set_option maxRecDepth 100000 in
set_option maxHeartbeats 2000000 in
theorem rpCheck_c (w : World) (a : Option Addr) (n c : Nat) (p : Nat → Tm) (hp : RdP w a n c p) (hsm : ∀ k, k < n → (p k).n1 ≤ 4 ∧ (p k).n2 ≤ 1) (r : Bool) (hr : POk p n ↔ r = true) :
    Calls Tryz.prog 118 #[.slice a n c] w fun e w' => e = .returned (.bool r) ∧ Below w.heap.size w w' := by
  have HB := Below.refl w.heap.size w
  have hn := hp.few
  have HR := Lib.hid hr
  have HS := Lib.hid hsm
  clear hr hsm
  go_enter Tryz.func118, Tryz.ntmps118
  go_wp2_with fail
  go_loopw [3] (fun v wr => ∃ k : Nat, k ≤ n ∧ v = .int .i64 k ∧ Below w.heap.size w wr ∧ Hid (POk p k)) (fun v _ => n - (intOf v).toNat)
  case atStart => exact ⟨0, Nat.zero_le _, rfl, HB, Lib.hid (fun j hj => absurd hj (Nat.not_lt_zero _))⟩
  case round =>
    obtain ⟨k, hk, rfl, HBr, he⟩ := hrel
    clear HB
    by_cases hlt : k < n
    · obtain ⟨b, o, rfl, hcl⟩ := hp.cell.resolve_left (by omega)
      have hpr := hp.keep HBr
      have HT := hpr.tm k hlt
      obtain ⟨e0, e1, e2, e3, e4, e5, e6, e7⟩ := hpr.at hlt
      have hs := HS.out k hlt
      have HCL := Lib.hid hcl
      clear hcl
      cases k with
      | zero =>
        obtain ⟨t, ht⟩ : ∃ t, t = p 0 := ⟨_, rfl⟩
        rw [← ht] at HT e0 e1 e2 e3 e4 e5 e6 e7 hs
        have HTK := Lib.hid ht
        clear ht
        simp only [Nat.zero_mul, Nat.add_zero] at e0 e1 e2 e3 e4 e5 e6 e7
        have hszw := HBr.size
        go_wp2_with fail
        have hs1 : t.n1 < 35184372088830 := by omega
        replace e0 := growC e0
        replace e1 := growC e1
        replace e2 := growC e2
        replace e3 := growC e3
        replace e4 := growC e4
        replace e5 := growC e5
        replace e6 := growC e6
        replace e7 := growC e7
        clear hpr
        by_cases hF0 : FOk t.g1 t.d1 t.g2 t.d2
        · have hF := Lib.hid hF0
          have HA := fracAt_of HT.top HT.low hF0
          have hsz := sgn_zero hF0.1
          generalize (if t.g1 then -(val t.d1 : Int) else (val t.d1 : Int)) = z at *
          clear hF0
          by_cases hz0 : z = 0
          · have hd0 := Lib.hid (hsz.1 hz0)
            have hz : cmpI z 0 = 0 := by rw [hz0]; exact cmpI_eq 0
            have hr0 : r = false := by
              cases r
              · rfl
              · exact absurd hd0.out (by have := (HR.out.2 rfl _ hlt).1.2; rw [HTK.out]; exact this)
            subst hr0
            clear hz0 hsz
            (refine wp_region_grow (by kernel_rfl) (by kernel_rfl) ?_; (repeat (go_big_quiet_step (first | (go_at_call 186; exact growL (rfCheck_c _ t.g1 t.a1 t.n1 t.c1 t.d1 (HT.top.keep (Subtype.property _)) t.g2 t.a2 t.n2 t.c2 t.d2 (HT.low.keep (Subtype.property _)) hs.2 hs1 true ⟨fun _ => rfl, fun _ => hF.out⟩)) | (go_at_call 41; exact growL (rfSign_c _ _ _ _ _ _ _ _ _ _ _ (HA.keep (Subtype.property _)) hs.2 hs1))))); refine wpQuiet_nil ?_; intro _ hw0; obtain ⟨nq, hw0⟩ := hw0; subst hw0)
            go_wp2_with fail
            go_ret
            exact ⟨rfl, HBr.trans (nq.2.mono HBr.size)⟩
          · have hd0 := Lib.hid (fun e => hz0 (hsz.2 e))
            have hz : (cmpI z 0 == 0) = false := by rw [beq_eq_false_iff_ne]; exact fun e => hz0 (cmpI_zero.1 e)
            clear hz0 hsz
            (refine wp_region_grow (by kernel_rfl) (by kernel_rfl) ?_; (repeat (go_big_quiet_step (first | (go_at_call 186; exact growL (rfCheck_c _ t.g1 t.a1 t.n1 t.c1 t.d1 (HT.top.keep (Subtype.property _)) t.g2 t.a2 t.n2 t.c2 t.d2 (HT.low.keep (Subtype.property _)) hs.2 hs1 true ⟨fun _ => rfl, fun _ => hF.out⟩)) | (go_at_call 41; exact growL (rfSign_c _ _ _ _ _ _ _ _ _ _ _ (HA.keep (Subtype.property _)) hs.2 hs1))))); refine wpQuiet_nil ?_; intro _ hw0; obtain ⟨nq, hw0⟩ := hw0; subst hw0)
            go_wp2_with fail
            go_roundw
            case rel => exact ⟨1, by omega, rfl, HBr.trans (nq.2.mono HBr.size), Lib.hid (fun i hi => by have h0 : i = 0 := (by omega); subst h0; exact ⟨by rw [← HTK.out]; exact ⟨hF.out, hd0.out⟩, fun h => absurd h (by omega)⟩)⟩
            case measure => simp [intOf]; omega
        · have hF := Lib.hid hF0
          have hr0 : r = false := by
            cases r
            · rfl
            · exact absurd (by have := (HR.out.2 rfl _ hlt).1.1; rw [HTK.out]; exact this) hF0
          subst hr0
          clear hF0
          (refine wp_region_grow (by kernel_rfl) (by kernel_rfl) ?_; (repeat (go_big_quiet_step (first | (go_at_call 186; exact growL (rfCheck_c _ t.g1 t.a1 t.n1 t.c1 t.d1 (HT.top.keep (Subtype.property _)) t.g2 t.a2 t.n2 t.c2 t.d2 (HT.low.keep (Subtype.property _)) hs.2 hs1 false ⟨fun e => absurd e hF.out, fun e => (by cases e)⟩))))); refine wpQuiet_nil ?_; intro _ hw0; obtain ⟨nq, hw0⟩ := hw0; subst hw0)
          go_wp2_with fail
          go_ret
          exact ⟨rfl, HBr.trans (nq.2.mono HBr.size)⟩
      | succ j =>
        obtain ⟨t, ht⟩ : ∃ t, t = p (j + 1) := ⟨_, rfl⟩
        rw [← ht] at HT e0 e1 e2 e3 e4 e5 e6 e7 hs
        have HTK := Lib.hid ht
        clear ht
        have hszw := HBr.size
        have hjn : j < n := by omega
        obtain ⟨_, _, _, _, q4, q5, q6, q7⟩ := hpr.at (show j < n by omega)
        have HU := hpr.tm j hjn
        obtain ⟨u, hu⟩ : ∃ u, u = p j := ⟨_, rfl⟩
        rw [← hu] at q4 q5 q6 q7 HU
        have HUK := Lib.hid hu
        clear hu
        go_wp2_with fail
        have hs1 : t.n1 < 35184372088830 := by omega
        have HT0 : InU16 t.m0 := ⟨by omega, by have := HT.s0; omega⟩
        have HT1 : InU16 t.m1 := ⟨by omega, by have := HT.s1; omega⟩
        have HT2 : InU16 t.m2 := ⟨by omega, by have := HT.s2; omega⟩
        have HT3 : InU16 t.m3 := ⟨by omega, by have := HT.s3; omega⟩
        have HU0 : InU16 u.m0 := ⟨by omega, by have := HU.s0; omega⟩
        have HU1 : InU16 u.m1 := ⟨by omega, by have := HU.s1; omega⟩
        have HU2 : InU16 u.m2 := ⟨by omega, by have := HU.s2; omega⟩
        have HU3 : InU16 u.m3 := ⟨by omega, by have := HU.s3; omega⟩
        replace e0 := growC e0
        replace e1 := growC e1
        replace e2 := growC e2
        replace e3 := growC e3
        replace e4 := growC e4
        replace e5 := growC e5
        replace e6 := growC e6
        replace e7 := growC e7
        replace q4 := growC q4
        replace q5 := growC q5
        replace q6 := growC q6
        replace q7 := growC q7
        clear hpr
        by_cases hF0 : FOk t.g1 t.d1 t.g2 t.d2
        · have hF := Lib.hid hF0
          have HA := fracAt_of HT.top HT.low hF0
          have hsz := sgn_zero hF0.1
          generalize (if t.g1 then -(val t.d1 : Int) else (val t.d1 : Int)) = z at *
          clear hF0
          by_cases hz0 : z = 0
          · have hd0 := Lib.hid (hsz.1 hz0)
            have hz : cmpI z 0 = 0 := by rw [hz0]; exact cmpI_eq 0
            have hr0 : r = false := by
              cases r
              · rfl
              · exact absurd hd0.out (by have := (HR.out.2 rfl _ hlt).1.2; rw [HTK.out]; exact this)
            subst hr0
            clear hz0 hsz
            (refine wp_region_grow (by kernel_rfl) (by kernel_rfl) ?_; (repeat (go_big_quiet_step (first | (go_at_call 186; exact growL (rfCheck_c _ t.g1 t.a1 t.n1 t.c1 t.d1 (HT.top.keep (Subtype.property _)) t.g2 t.a2 t.n2 t.c2 t.d2 (HT.low.keep (Subtype.property _)) hs.2 hs1 true ⟨fun _ => rfl, fun _ => hF.out⟩)) | (go_at_call 41; exact growL (rfSign_c _ _ _ _ _ _ _ _ _ _ _ (HA.keep (Subtype.property _)) hs.2 hs1)) | (go_at_call 134; exact growL (rCmp_c _ _ _ _ _ _ _ _ _ HU0 HU1 HU2 HU3 HT0 HT1 HT2 HT3))))); refine wpQuiet_nil ?_; intro _ hw0; obtain ⟨nq, hw0⟩ := hw0; subst hw0)
            go_wp2_with fail
            go_ret
            exact ⟨rfl, HBr.trans (nq.2.mono HBr.size)⟩
          · have hd0 := Lib.hid (fun e => hz0 (hsz.2 e))
            have hz : (cmpI z 0 == 0) = false := by rw [beq_eq_false_iff_ne]; exact fun e => hz0 (cmpI_zero.1 e)
            clear hz0 hsz
            have hneg := lexF_swap (quad u.m0 u.m1 u.m2 u.m3) (quad t.m0 t.m1 t.m2 t.m3)
            by_cases hl0 : lexF (quad t.m0 t.m1 t.m2 t.m3) (quad u.m0 u.m1 u.m2 u.m3) < 0
            · have hl := Lib.hid hl0
              have hl1 : decide (lexF (quad u.m0 u.m1 u.m2 u.m3) (quad t.m0 t.m1 t.m2 t.m3) ≤ 0) = false := by rw [decide_eq_false_iff_not]; omega
              clear hl0 hneg
              (refine wp_region_grow (by kernel_rfl) (by kernel_rfl) ?_; (repeat (go_big_quiet_step (first | (go_at_call 186; exact growL (rfCheck_c _ t.g1 t.a1 t.n1 t.c1 t.d1 (HT.top.keep (Subtype.property _)) t.g2 t.a2 t.n2 t.c2 t.d2 (HT.low.keep (Subtype.property _)) hs.2 hs1 true ⟨fun _ => rfl, fun _ => hF.out⟩)) | (go_at_call 41; exact growL (rfSign_c _ _ _ _ _ _ _ _ _ _ _ (HA.keep (Subtype.property _)) hs.2 hs1)) | (go_at_call 134; exact growL (rCmp_c _ _ _ _ _ _ _ _ _ HU0 HU1 HU2 HU3 HT0 HT1 HT2 HT3))))); refine wpQuiet_nil ?_; intro _ hw0; obtain ⟨nq, hw0⟩ := hw0; subst hw0)
              go_wp2_with fail
              go_roundw
              case rel => exact ⟨j + 1 + 1, by omega, by simp, HBr.trans (nq.2.mono HBr.size), Lib.hid (fun i hi => by
              rcases Nat.lt_or_ge i (j + 1) with h | h
              · exact he.out i h
              · obtain rfl : i = j + 1 := by omega
                exact ⟨by rw [← HTK.out]; exact ⟨hF.out, hd0.out⟩, fun _ => by rw [← HTK.out, Nat.add_sub_cancel, ← HUK.out]; exact hl.out⟩)⟩
              case measure => simp [intOf]; omega
            · have hl1 : decide (lexF (quad u.m0 u.m1 u.m2 u.m3) (quad t.m0 t.m1 t.m2 t.m3) ≤ 0) = true := by rw [decide_eq_true_iff]; omega
              have hr0 : r = false := by
                cases r
                · rfl
                · refine absurd ((HR.out.2 rfl _ hlt).2 (by omega)) ?_
                  rw [← HTK.out, Nat.add_sub_cancel, ← HUK.out]; exact hl0
              subst hr0
              clear hl0 hneg
              (refine wp_region_grow (by kernel_rfl) (by kernel_rfl) ?_; (repeat (go_big_quiet_step (first | (go_at_call 186; exact growL (rfCheck_c _ t.g1 t.a1 t.n1 t.c1 t.d1 (HT.top.keep (Subtype.property _)) t.g2 t.a2 t.n2 t.c2 t.d2 (HT.low.keep (Subtype.property _)) hs.2 hs1 true ⟨fun _ => rfl, fun _ => hF.out⟩)) | (go_at_call 41; exact growL (rfSign_c _ _ _ _ _ _ _ _ _ _ _ (HA.keep (Subtype.property _)) hs.2 hs1)) | (go_at_call 134; exact growL (rCmp_c _ _ _ _ _ _ _ _ _ HU0 HU1 HU2 HU3 HT0 HT1 HT2 HT3))))); refine wpQuiet_nil ?_; intro _ hw0; obtain ⟨nq, hw0⟩ := hw0; subst hw0)
              go_wp2_with fail
              go_ret
              exact ⟨rfl, HBr.trans (nq.2.mono HBr.size)⟩
        · have hF := Lib.hid hF0
          have hr0 : r = false := by
            cases r
            · rfl
            · exact absurd (by have := (HR.out.2 rfl _ hlt).1.1; rw [HTK.out]; exact this) hF0
          subst hr0
          clear hF0
          (refine wp_region_grow (by kernel_rfl) (by kernel_rfl) ?_; (repeat (go_big_quiet_step (first | (go_at_call 186; exact growL (rfCheck_c _ t.g1 t.a1 t.n1 t.c1 t.d1 (HT.top.keep (Subtype.property _)) t.g2 t.a2 t.n2 t.c2 t.d2 (HT.low.keep (Subtype.property _)) hs.2 hs1 false ⟨fun e => absurd e hF.out, fun e => (by cases e)⟩))))); refine wpQuiet_nil ?_; intro _ hw0; obtain ⟨nq, hw0⟩ := hw0; subst hw0)
          go_wp2_with fail
          go_ret
          exact ⟨rfl, HBr.trans (nq.2.mono HBr.size)⟩
    · obtain rfl : k = n := by omega
      have hr := HR.out.1 he.out
      subst hr
      go_wp2_with fail
      go_ret
      exact ⟨rfl, HBr⟩

theorem rpFit_yes (w : World) (a : Option Addr) (n c : Nat) (p : Nat → Tm) (hp : RdP w a n c p) (hsm : ∀ k, k < n → (p k).n1 ≤ 4 ∧ (p k).n2 ≤ 1) (hr : POk p n) :
    Calls Tryz.prog 40 #[.slice a n c] w fun e w' => e = .returned (.slice a n c) ∧ Below w.heap.size w w' := by
  have HR := Lib.hid hr
  clear hr
  go_enter Tryz.func40, Tryz.ntmps40
  go_wp2_with fail
  refine (rpCheck_c _ _ _ _ p hp hsm true ⟨fun _ => rfl, fun _ => HR.out⟩).mono ?_
  rintro e w1 ⟨rfl, hb⟩
  go_wp2_with fail
  go_ret
  exact ⟨rfl, hb⟩

theorem rpFit_no (w : World) (a : Option Addr) (n c : Nat) (p : Nat → Tm) (hp : RdP w a n c p) (hsm : ∀ k, k < n → (p k).n1 ≤ 4 ∧ (p k).n2 ≤ 1) (hr : ¬ POk p n) :
    Calls Tryz.prog 40 #[.slice a n c] w fun e w' => e = .returned (.slice none 0 0) ∧ Below w.heap.size w w' := by
  have HR := Lib.hid hr
  clear hr
  go_enter Tryz.func40, Tryz.ntmps40
  go_wp2_with fail
  refine (rpCheck_c _ _ _ _ p hp hsm false ⟨fun h => absurd h HR.out, fun e => (by cases e)⟩).mono ?_
  rintro e w1 ⟨rfl, hb⟩
  go_wp2_with fail
  go_ret
  exact ⟨rfl, hb⟩
end Go.Proofs.YtdamegaedmckbaaGreatDoor
