/- Package polys: Check, where every number below has one part at most. -/
import Derived.Test.YtdamegaedmckbaaGreatDoorM22
import Derived.Test.YtdamegaedmckbaaGreatDoorM9
set_option linter.unusedSimpArgs false
set_option linter.unusedVariables false
section
namespace Go.Proofs.YtdamegaedmckbaaGreatDoor
open Go.RowKit

/-- A term's counts. -/
def Tm.mono (t : Tm) : Nat → Int := quad t.m0 t.m1 t.m2 t.m3
/-- A term may be. -/
def TOk (t : Tm) : Prop := FOk t.g1 t.d1 t.g2 t.d2 ∧ t.d1 ≠ []
def okAt (p : Nat → Tm) (j : Nat) : Prop := TOk (p j) ∧ (0 < j → lexF (p j).mono (p (j - 1)).mono < 0)
/-- A sum may be. -/
def POk (p : Nat → Tm) (n : Nat) : Prop := ∀ j, j < n → okAt p j
theorem fracAt_of {w : World} {g1 : Bool} {a1 : Option Addr} {n1 c1 : Nat} {d1 : List Nat} {g2 : Bool} {a2 : Option Addr} {n2 c2 : Nat} {d2 : List Nat} (h1 : RdL w a1 n1 c1 d1) (h2 : RdL w a2 n2 c2 d2) (h : FOk g1 d1 g2 d2) :
    FracAt w g1 a1 n1 c1 (if g1 then -(val d1 : Int) else val d1) g2 a2 n2 c2 (val d2) := by
  obtain ⟨o1, o2, e2, hne, hg⟩ := h
  have N2 := numAt_of_okay h2 o2
  rw [e2] at N2
  simp only [Bool.false_eq_true, if_false] at N2
  refine ⟨numAt_of_okay h1 o1, by rw [e2]; exact N2, ?_, ?_⟩
  · have := val_pos_of_canon o2.1 hne; omega
  · rw [← hg]
    cases g1 <;> simp [Int.gcd]
theorem sgn_zero {g : Bool} {d : List Nat} (h : Okay g d) : (if g then -(val d : Int) else (val d : Int)) = 0 ↔ d = [] := by
  constructor
  · intro h1
    apply Decidable.byContradiction
    intro hne
    have := val_pos_of_canon h.1 hne
    cases g <;> simp at h1 <;> omega
  · rintro rfl
    cases g <;> simp [val]
set_option maxRecDepth 100000 in
set_option maxHeartbeats 2000000 in
theorem pCheck_c (w : World) (a : Option Addr) (n c : Nat) (p : Nat → Tm) (hp : RdP w a n c p) (hsm : ∀ k, k < n → (p k).n1 ≤ 1000000 ∧ (p k).n2 ≤ 1000000) (r : Bool) (hr : POk p n ↔ r = true) :
    Calls Tryz.prog 23 #[.slice a n c] w fun e w' => e = .returned (.bool r) ∧ Below w.heap.size w w' := by
  have HB := Below.refl w.heap.size w
  have hn := hp.few
  have HR := Lib.hid hr
  have HS := Lib.hid hsm
  clear hr hsm
  go_enter Tryz.func23, Tryz.ntmps23
  go_wp2_with fail
  go_loopw [7] (fun v wr => ∃ k : Nat, k ≤ n ∧ v = .int .i64 k ∧ Below w.heap.size w wr ∧ Hid (POk p k)) (fun v _ => n - (intOf v).toNat)
  case atStart => exact ⟨0, Nat.zero_le _, rfl, HB, Lib.hid (fun j hj => absurd hj (Nat.not_lt_zero _))⟩
  case round =>
    obtain ⟨k, hk, rfl, HBr, he⟩ := hrel
    clear HB
    by_cases hlt : k < n
    · obtain ⟨b, o, rfl, hcl⟩ := hp.cell.resolve_left (by omega)
      have hpr := hp.keep HBr
      have HT := hpr.tm k hlt
      obtain ⟨e0, e1, e2, e3, e4, e5, e6, e7⟩ := hpr.at hlt
      have hs := HS.out k hlt
      have HCL := Lib.hid hcl
      clear hcl
      cases k with
      | zero =>
        obtain ⟨t, ht⟩ : ∃ t, t = p 0 := ⟨_, rfl⟩
        rw [← ht] at HT e0 e1 e2 e3 e4 e5 e6 e7 hs
        have HTK := Lib.hid ht
        clear ht
        simp only [Nat.zero_mul, Nat.add_zero] at e0 e1 e2 e3 e4 e5 e6 e7
        have hszw := HBr.size
        go_upto_region 4 with fail
        have HB1 : Below w.heap.size w (wr.alloc (.cells #[.bool t.g1, .slice t.a1 t.n1 t.c1, .bool t.g2, .slice t.a2 t.n2 t.c2, .int .u16 t.m0, .int .u16 t.m1, .int .u16 t.m2, .int .u16 t.m3] 68)) := by go_grown
        have c0 : (wr.alloc (.cells #[.bool t.g1, .slice t.a1 t.n1 t.c1, .bool t.g2, .slice t.a2 t.n2 t.c2, .int .u16 t.m0, .int .u16 t.m1, .int .u16 t.m2, .int .u16 t.m3] 68)).cell? ⟨wr.heap.size, 0, none⟩ = some (.bool t.g1) := by simp [go_sem]
        have c1 : (wr.alloc (.cells #[.bool t.g1, .slice t.a1 t.n1 t.c1, .bool t.g2, .slice t.a2 t.n2 t.c2, .int .u16 t.m0, .int .u16 t.m1, .int .u16 t.m2, .int .u16 t.m3] 68)).cell? ⟨wr.heap.size, 1, none⟩ = some (.slice t.a1 t.n1 t.c1) := by simp [go_sem]
        have c2 : (wr.alloc (.cells #[.bool t.g1, .slice t.a1 t.n1 t.c1, .bool t.g2, .slice t.a2 t.n2 t.c2, .int .u16 t.m0, .int .u16 t.m1, .int .u16 t.m2, .int .u16 t.m3] 68)).cell? ⟨wr.heap.size, 2, none⟩ = some (.bool t.g2) := by simp [go_sem]
        have c3 : (wr.alloc (.cells #[.bool t.g1, .slice t.a1 t.n1 t.c1, .bool t.g2, .slice t.a2 t.n2 t.c2, .int .u16 t.m0, .int .u16 t.m1, .int .u16 t.m2, .int .u16 t.m3] 68)).cell? ⟨wr.heap.size, 3, none⟩ = some (.slice t.a2 t.n2 t.c2) := by simp [go_sem]
        have c4 : (wr.alloc (.cells #[.bool t.g1, .slice t.a1 t.n1 t.c1, .bool t.g2, .slice t.a2 t.n2 t.c2, .int .u16 t.m0, .int .u16 t.m1, .int .u16 t.m2, .int .u16 t.m3] 68)).cell? ⟨wr.heap.size, 4, none⟩ = some (.int .u16 t.m0) := by simp [go_sem]
        have c5 : (wr.alloc (.cells #[.bool t.g1, .slice t.a1 t.n1 t.c1, .bool t.g2, .slice t.a2 t.n2 t.c2, .int .u16 t.m0, .int .u16 t.m1, .int .u16 t.m2, .int .u16 t.m3] 68)).cell? ⟨wr.heap.size, 5, none⟩ = some (.int .u16 t.m1) := by simp [go_sem]
        have c6 : (wr.alloc (.cells #[.bool t.g1, .slice t.a1 t.n1 t.c1, .bool t.g2, .slice t.a2 t.n2 t.c2, .int .u16 t.m0, .int .u16 t.m1, .int .u16 t.m2, .int .u16 t.m3] 68)).cell? ⟨wr.heap.size, 6, none⟩ = some (.int .u16 t.m2) := by simp [go_sem]
        have c7 : (wr.alloc (.cells #[.bool t.g1, .slice t.a1 t.n1 t.c1, .bool t.g2, .slice t.a2 t.n2 t.c2, .int .u16 t.m0, .int .u16 t.m1, .int .u16 t.m2, .int .u16 t.m3] 68)).cell? ⟨wr.heap.size, 7, none⟩ = some (.int .u16 t.m3) := by simp [go_sem]
        have hb1 : Below wr.heap.size wr (wr.alloc (.cells #[.bool t.g1, .slice t.a1 t.n1 t.c1, .bool t.g2, .slice t.a2 t.n2 t.c2, .int .u16 t.m0, .int .u16 t.m1, .int .u16 t.m2, .int .u16 t.m3] 68)) := by go_grown
        replace HT := HT.keep hb1
        generalize (wr.alloc (.cells #[.bool t.g1, .slice t.a1 t.n1 t.c1, .bool t.g2, .slice t.a2 t.n2 t.c2, .int .u16 t.m0, .int .u16 t.m1, .int .u16 t.m2, .int .u16 t.m3] 68)) = w1 at *
        generalize wr.heap.size = B at *
        have hs1 : t.n1 < 35184372088829 := by omega
        have hs2 : t.n2 < 35184372088829 := by omega
        replace c0 := growC c0
        replace c1 := growC c1
        replace c2 := growC c2
        replace c3 := growC c3
        replace c4 := growC c4
        replace c5 := growC c5
        replace c6 := growC c6
        replace c7 := growC c7
        clear hb1 hpr HBr
        by_cases hF0 : FOk t.g1 t.d1 t.g2 t.d2
        · have hF := Lib.hid hF0
          have HA := fracAt_of HT.top HT.low hF0
          have hsz := sgn_zero hF0.1
          generalize (if t.g1 then -(val t.d1 : Int) else (val t.d1 : Int)) = z at *
          clear hF0
          by_cases hz0 : z = 0
          · have hd0 := Lib.hid (hsz.1 hz0)
            have hz : cmpI z 0 = 0 := by rw [hz0]; exact cmpI_eq 0
            have hr0 : r = false := by
              cases r
              · rfl
              · exact absurd hd0.out (by have := (HR.out.2 rfl _ hlt).1.2; rw [HTK.out]; exact this)
            subst hr0
            clear hz0 hsz
            (refine wp_region_grow (by kernel_rfl) (by kernel_rfl) ?_; (repeat (go_big_quiet_step (first | (go_at_call 93; exact growL (fCheck_c _ t.g1 t.a1 t.n1 t.c1 t.d1 (HT.top.keep (Subtype.property _)) t.g2 t.a2 t.n2 t.c2 t.d2 (HT.low.keep (Subtype.property _)) hs2 hs1 true ⟨fun _ => rfl, fun _ => hF.out⟩)) | (go_at_call 31; exact growL (fSign_c _ _ _ _ _ _ _ _ _ _ _ (HA.keep (Subtype.property _)) hs2 hs1))))); refine wpQuiet_nil ?_; intro _ hw0; obtain ⟨nq, hw0⟩ := hw0; subst hw0)
            go_wp2_with fail
            go_ret
            exact ⟨rfl, HB1.trans (nq.2.mono HB1.size)⟩
          · have hd0 := Lib.hid (fun e => hz0 (hsz.2 e))
            have hz : (cmpI z 0 == 0) = false := by rw [beq_eq_false_iff_ne]; exact fun e => hz0 (cmpI_zero.1 e)
            clear hz0 hsz
            (refine wp_region_grow (by kernel_rfl) (by kernel_rfl) ?_; (repeat (go_big_quiet_step (first | (go_at_call 93; exact growL (fCheck_c _ t.g1 t.a1 t.n1 t.c1 t.d1 (HT.top.keep (Subtype.property _)) t.g2 t.a2 t.n2 t.c2 t.d2 (HT.low.keep (Subtype.property _)) hs2 hs1 true ⟨fun _ => rfl, fun _ => hF.out⟩)) | (go_at_call 31; exact growL (fSign_c _ _ _ _ _ _ _ _ _ _ _ (HA.keep (Subtype.property _)) hs2 hs1))))); refine wpQuiet_nil ?_; intro _ hw0; obtain ⟨nq, hw0⟩ := hw0; subst hw0)
            go_wp2_with fail
            go_roundw
            case rel => exact ⟨1, by omega, rfl, HB1.trans (nq.2.mono HB1.size), Lib.hid (fun i hi => by have h0 : i = 0 := (by omega); subst h0; exact ⟨by rw [← HTK.out]; exact ⟨hF.out, hd0.out⟩, fun h => absurd h (by omega)⟩)⟩
            case measure => simp [intOf]; omega
        · have hF := Lib.hid hF0
          have hr0 : r = false := by
            cases r
            · rfl
            · exact absurd (by have := (HR.out.2 rfl _ hlt).1.1; rw [HTK.out]; exact this) hF0
          subst hr0
          clear hF0
          (refine wp_region_grow (by kernel_rfl) (by kernel_rfl) ?_; (repeat (go_big_quiet_step (first | (go_at_call 93; exact growL (fCheck_c _ t.g1 t.a1 t.n1 t.c1 t.d1 (HT.top.keep (Subtype.property _)) t.g2 t.a2 t.n2 t.c2 t.d2 (HT.low.keep (Subtype.property _)) hs2 hs1 false ⟨fun e => absurd e hF.out, fun e => (by cases e)⟩))))); refine wpQuiet_nil ?_; intro _ hw0; obtain ⟨nq, hw0⟩ := hw0; subst hw0)
          go_wp2_with fail
          go_ret
          exact ⟨rfl, HB1.trans (nq.2.mono HB1.size)⟩
      | succ j =>
        obtain ⟨t, ht⟩ : ∃ t, t = p (j + 1) := ⟨_, rfl⟩
        rw [← ht] at HT e0 e1 e2 e3 e4 e5 e6 e7 hs
        have HTK := Lib.hid ht
        clear ht
        have hszw := HBr.size
        have hjn : j < n := by omega
        go_upto_region 4 with fail
        clear e0 e1 e2 e3 e4 e5 e6 e7
        obtain ⟨_, _, _, _, e4, e5, e6, e7⟩ := hpr.at (show j < n by omega)
        obtain ⟨u, hu⟩ : ∃ u, u = p j := ⟨_, rfl⟩
        rw [← hu] at e4 e5 e6 e7
        have HUK := Lib.hid hu
        clear hu
        have HB1 : Below w.heap.size w (wr.alloc (.cells #[.bool t.g1, .slice t.a1 t.n1 t.c1, .bool t.g2, .slice t.a2 t.n2 t.c2, .int .u16 t.m0, .int .u16 t.m1, .int .u16 t.m2, .int .u16 t.m3] 68)) := by go_grown
        have c0 : (wr.alloc (.cells #[.bool t.g1, .slice t.a1 t.n1 t.c1, .bool t.g2, .slice t.a2 t.n2 t.c2, .int .u16 t.m0, .int .u16 t.m1, .int .u16 t.m2, .int .u16 t.m3] 68)).cell? ⟨wr.heap.size, 0, none⟩ = some (.bool t.g1) := by simp [go_sem]
        have c1 : (wr.alloc (.cells #[.bool t.g1, .slice t.a1 t.n1 t.c1, .bool t.g2, .slice t.a2 t.n2 t.c2, .int .u16 t.m0, .int .u16 t.m1, .int .u16 t.m2, .int .u16 t.m3] 68)).cell? ⟨wr.heap.size, 1, none⟩ = some (.slice t.a1 t.n1 t.c1) := by simp [go_sem]
        have c2 : (wr.alloc (.cells #[.bool t.g1, .slice t.a1 t.n1 t.c1, .bool t.g2, .slice t.a2 t.n2 t.c2, .int .u16 t.m0, .int .u16 t.m1, .int .u16 t.m2, .int .u16 t.m3] 68)).cell? ⟨wr.heap.size, 2, none⟩ = some (.bool t.g2) := by simp [go_sem]
        have c3 : (wr.alloc (.cells #[.bool t.g1, .slice t.a1 t.n1 t.c1, .bool t.g2, .slice t.a2 t.n2 t.c2, .int .u16 t.m0, .int .u16 t.m1, .int .u16 t.m2, .int .u16 t.m3] 68)).cell? ⟨wr.heap.size, 3, none⟩ = some (.slice t.a2 t.n2 t.c2) := by simp [go_sem]
        have c4 : (wr.alloc (.cells #[.bool t.g1, .slice t.a1 t.n1 t.c1, .bool t.g2, .slice t.a2 t.n2 t.c2, .int .u16 t.m0, .int .u16 t.m1, .int .u16 t.m2, .int .u16 t.m3] 68)).cell? ⟨wr.heap.size, 4, none⟩ = some (.int .u16 t.m0) := by simp [go_sem]
        have c5 : (wr.alloc (.cells #[.bool t.g1, .slice t.a1 t.n1 t.c1, .bool t.g2, .slice t.a2 t.n2 t.c2, .int .u16 t.m0, .int .u16 t.m1, .int .u16 t.m2, .int .u16 t.m3] 68)).cell? ⟨wr.heap.size, 5, none⟩ = some (.int .u16 t.m1) := by simp [go_sem]
        have c6 : (wr.alloc (.cells #[.bool t.g1, .slice t.a1 t.n1 t.c1, .bool t.g2, .slice t.a2 t.n2 t.c2, .int .u16 t.m0, .int .u16 t.m1, .int .u16 t.m2, .int .u16 t.m3] 68)).cell? ⟨wr.heap.size, 6, none⟩ = some (.int .u16 t.m2) := by simp [go_sem]
        have c7 : (wr.alloc (.cells #[.bool t.g1, .slice t.a1 t.n1 t.c1, .bool t.g2, .slice t.a2 t.n2 t.c2, .int .u16 t.m0, .int .u16 t.m1, .int .u16 t.m2, .int .u16 t.m3] 68)).cell? ⟨wr.heap.size, 7, none⟩ = some (.int .u16 t.m3) := by simp [go_sem]
        have hb1 : Below wr.heap.size wr (wr.alloc (.cells #[.bool t.g1, .slice t.a1 t.n1 t.c1, .bool t.g2, .slice t.a2 t.n2 t.c2, .int .u16 t.m0, .int .u16 t.m1, .int .u16 t.m2, .int .u16 t.m3] 68)) := by go_grown
        have e4 := cell_keep hb1 e4
        have e5 := cell_keep hb1 e5
        have e6 := cell_keep hb1 e6
        have e7 := cell_keep hb1 e7
        replace HT := HT.keep hb1
        generalize (wr.alloc (.cells #[.bool t.g1, .slice t.a1 t.n1 t.c1, .bool t.g2, .slice t.a2 t.n2 t.c2, .int .u16 t.m0, .int .u16 t.m1, .int .u16 t.m2, .int .u16 t.m3] 68)) = w1 at *
        generalize wr.heap.size = B at *
        have hs1 : t.n1 < 35184372088829 := by omega
        have hs2 : t.n2 < 35184372088829 := by omega
        replace c0 := growC c0
        replace c1 := growC c1
        replace c2 := growC c2
        replace c3 := growC c3
        replace c4 := growC c4
        replace c5 := growC c5
        replace c6 := growC c6
        replace c7 := growC c7
        replace e4 := growC e4
        replace e5 := growC e5
        replace e6 := growC e6
        replace e7 := growC e7
        clear hb1 hpr HBr
        by_cases hF0 : FOk t.g1 t.d1 t.g2 t.d2
        · have hF := Lib.hid hF0
          have HA := fracAt_of HT.top HT.low hF0
          have hsz := sgn_zero hF0.1
          generalize (if t.g1 then -(val t.d1 : Int) else (val t.d1 : Int)) = z at *
          clear hF0
          by_cases hz0 : z = 0
          · have hd0 := Lib.hid (hsz.1 hz0)
            have hz : cmpI z 0 = 0 := by rw [hz0]; exact cmpI_eq 0
            have hr0 : r = false := by
              cases r
              · rfl
              · exact absurd hd0.out (by have := (HR.out.2 rfl _ hlt).1.2; rw [HTK.out]; exact this)
            subst hr0
            clear hz0 hsz
            (refine wp_region_grow (by kernel_rfl) (by kernel_rfl) ?_; (repeat (go_big_quiet_step (first | (go_at_call 93; exact growL (fCheck_c _ t.g1 t.a1 t.n1 t.c1 t.d1 (HT.top.keep (Subtype.property _)) t.g2 t.a2 t.n2 t.c2 t.d2 (HT.low.keep (Subtype.property _)) hs2 hs1 true ⟨fun _ => rfl, fun _ => hF.out⟩)) | (go_at_call 31; exact growL (fSign_c _ _ _ _ _ _ _ _ _ _ _ (HA.keep (Subtype.property _)) hs2 hs1)) | (go_at_call 94; exact growL (falls_c _ _ _ _ _ _ _ _ _))))); refine wpQuiet_nil ?_; intro _ hw0; obtain ⟨nq, hw0⟩ := hw0; subst hw0)
            go_wp2_with fail
            go_ret
            exact ⟨rfl, HB1.trans (nq.2.mono HB1.size)⟩
          · have hd0 := Lib.hid (fun e => hz0 (hsz.2 e))
            have hz : (cmpI z 0 == 0) = false := by rw [beq_eq_false_iff_ne]; exact fun e => hz0 (cmpI_zero.1 e)
            clear hz0 hsz
            by_cases hl0 : lexF (quad t.m0 t.m1 t.m2 t.m3) (quad u.m0 u.m1 u.m2 u.m3) < 0
            · have hl := Lib.hid hl0
              have hl1 : decide (0 ≤ lexF (quad t.m0 t.m1 t.m2 t.m3) (quad u.m0 u.m1 u.m2 u.m3)) = false := by rw [decide_eq_false_iff_not]; omega
              clear hl0
              (refine wp_region_grow (by kernel_rfl) (by kernel_rfl) ?_; (repeat (go_big_quiet_step (first | (go_at_call 93; exact growL (fCheck_c _ t.g1 t.a1 t.n1 t.c1 t.d1 (HT.top.keep (Subtype.property _)) t.g2 t.a2 t.n2 t.c2 t.d2 (HT.low.keep (Subtype.property _)) hs2 hs1 true ⟨fun _ => rfl, fun _ => hF.out⟩)) | (go_at_call 31; exact growL (fSign_c _ _ _ _ _ _ _ _ _ _ _ (HA.keep (Subtype.property _)) hs2 hs1)) | (go_at_call 94; exact growL (falls_c _ _ _ _ _ _ _ _ _))))); refine wpQuiet_nil ?_; intro _ hw0; obtain ⟨nq, hw0⟩ := hw0; subst hw0)
              go_wp2_with fail
              go_roundw
              case rel => exact ⟨j + 1 + 1, by omega, by simp, HB1.trans (nq.2.mono HB1.size), Lib.hid (fun i hi => by
              rcases Nat.lt_or_ge i (j + 1) with h | h
              · exact he.out i h
              · obtain rfl : i = j + 1 := by omega
                exact ⟨by rw [← HTK.out]; exact ⟨hF.out, hd0.out⟩, fun _ => by rw [← HTK.out, Nat.add_sub_cancel, ← HUK.out]; exact hl.out⟩)⟩
              case measure => simp [intOf]; omega
            · have hl1 : decide (0 ≤ lexF (quad t.m0 t.m1 t.m2 t.m3) (quad u.m0 u.m1 u.m2 u.m3)) = true := by rw [decide_eq_true_iff]; omega
              have hr0 : r = false := by
                cases r
                · rfl
                · refine absurd ((HR.out.2 rfl _ hlt).2 (by omega)) ?_
                  rw [← HTK.out, Nat.add_sub_cancel, ← HUK.out]; exact hl0
              subst hr0
              clear hl0
              (refine wp_region_grow (by kernel_rfl) (by kernel_rfl) ?_; (repeat (go_big_quiet_step (first | (go_at_call 93; exact growL (fCheck_c _ t.g1 t.a1 t.n1 t.c1 t.d1 (HT.top.keep (Subtype.property _)) t.g2 t.a2 t.n2 t.c2 t.d2 (HT.low.keep (Subtype.property _)) hs2 hs1 true ⟨fun _ => rfl, fun _ => hF.out⟩)) | (go_at_call 31; exact growL (fSign_c _ _ _ _ _ _ _ _ _ _ _ (HA.keep (Subtype.property _)) hs2 hs1)) | (go_at_call 94; exact growL (falls_c _ _ _ _ _ _ _ _ _))))); refine wpQuiet_nil ?_; intro _ hw0; obtain ⟨nq, hw0⟩ := hw0; subst hw0)
              go_wp2_with fail
              go_ret
              exact ⟨rfl, HB1.trans (nq.2.mono HB1.size)⟩
        · have hF := Lib.hid hF0
          have hr0 : r = false := by
            cases r
            · rfl
            · exact absurd (by have := (HR.out.2 rfl _ hlt).1.1; rw [HTK.out]; exact this) hF0
          subst hr0
          clear hF0
          (refine wp_region_grow (by kernel_rfl) (by kernel_rfl) ?_; (repeat (go_big_quiet_step (first | (go_at_call 93; exact growL (fCheck_c _ t.g1 t.a1 t.n1 t.c1 t.d1 (HT.top.keep (Subtype.property _)) t.g2 t.a2 t.n2 t.c2 t.d2 (HT.low.keep (Subtype.property _)) hs2 hs1 false ⟨fun e => absurd e hF.out, fun e => (by cases e)⟩))))); refine wpQuiet_nil ?_; intro _ hw0; obtain ⟨nq, hw0⟩ := hw0; subst hw0)
          go_wp2_with fail
          go_ret
          exact ⟨rfl, HB1.trans (nq.2.mono HB1.size)⟩
    · obtain rfl : k = n := by omega
      have hr := HR.out.1 he.out
      subst hr
      go_wp2_with fail
      go_ret
      exact ⟨rfl, HBr⟩
end Go.Proofs.YtdamegaedmckbaaGreatDoor
end
