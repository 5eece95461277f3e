/- The reader of the shipped package: sum. Condition: the variable ErrRange holds something. Parse of the shipped package. Condition: the variable ErrRange holds something. Some answers that the document fixes: canon, fails, alive. Conditions: the variables that strconv asks. alive: the answers that the document fixes are all given. Conditions: the variables that strconv asks. -/
import Derived.Test.YtdamegaedmckbaaGreatDoorX35
import Derived.Test.YtdamegaedmckbaaGreatDoorX31
import Derived.Test.YtdamegaedmckbaaGreatDoorX25
import Derived.Test.YtdamegaedmckbaaGreatDoorX0
import Derived.Recover
import Derived.Defers
set_option linter.unusedSimpArgs false
set_option linter.unusedVariables false
section
namespace Go.Proofs.YtdamegaedmckbaaGreatDoor
open Go.RowKit

/-- What sum ends with. -/
def SumPost (w : World) (R : Nat) (x : Option (List PT × Bool)) (e : Ending) (w' : World) : Prop :=
  w.grownBy w' (some R) ∧ match x with | none => e = .panicked noSum | some (l, m) => ∃ a n c, e = .returned (.slice a n c) ∧ PolyAt w' w.heap.size a n c l ∧ RdrAt w' R [] m
theorem SumPost.no {w w' : World} {R : Nat} (h : w.grownBy w' (some R)) : SumPost w R none (.panicked noSum) w' := ⟨h, rfl⟩
set_option maxRecDepth 100000 in
set_option maxHeartbeats 4000000 in
theorem readSum_c (wo : World) (R : Nat) (L : List UInt8) (h : RdrAt wo R L false) (hL : L.length < 65537) (hV : ErrV wo) (hR : 7 < R) :
    Calls Tryz.prog 47 #[.pointer (some ⟨R, 0, none⟩)] wo (SumPost wo R (rdSum L)) := by
  have hRlt := h.lt
  have hne7 : some 7 ≠ some R := by simp; omega
  have hsk := skp_le L
  go_enter Tryz.func47, Tryz.ntmps47
  go_wp2_with (first | (go_at_call 127; refine (skip_c _ R L false h (by omega)).mono ?_; rintro e w1 ⟨rfl, hr1, hg1⟩))
  refine (rdTakes_c w1 R (skp L) false 45 hr1 (by omega) (by omega) (by omega)).mono ?_
  rintro e w2 ⟨rfl, hr2, hg2⟩
  obtain ⟨L1, hL1⟩ : ∃ L1, L1 = (if headIs (skp L) 45 then (skp L).tail else skp L) := ⟨_, rfl⟩
  have hl1 : L1.length ≤ L.length := by
    rw [hL1]; split
    · simp; omega
    · exact hsk
  obtain ⟨ng, hng⟩ : ∃ ng, ng = headIs (skp L) 45 := ⟨_, rfl⟩
  have hTR : Hid (rdSum L = match rdTerm L1 false ng with | none => none | some (l, r, m) => rdMore l r m) := Lib.hid (by rw [hL1, hng]; rfl)
  rw [← hL1] at hr2
  rw [← hng]
  clear hL1 hng hr1
  have hg12 := hg1.trans hg2
  have hV2 : ErrV w2 := hV.grown hg12 hne7
  clear hg1 hg2
  cases hx : rdTerm L1 false ng with
  | none =>
    go_wp2_with fail
    refine (term_c w2 R L1 false ng hr2 (by omega) hV2 hR).mono ?_
    rintro e w3 ⟨hg3, hp3⟩
    rw [hx] at hp3
    subst hp3
    have hz : rdSum L = none := by rw [hTR.out, hx]
    refine ⟨rfl, ?_⟩
    rw [hz]
    exact SumPost.no (hg12.trans hg3)
  | some x =>
    obtain ⟨l, r, m⟩ := x
    go_wp2_with (first | (go_at_call 128; refine (term_c w2 R L1 false ng hr2 (by omega) hV2 hR).mono ?_; rintro e w3 ⟨hg3, hp3⟩; rw [hx] at hp3; obtain ⟨a1, n1, c1, rfl, hP3, hr3⟩ := hp3))
    obtain ⟨g1, g2, g3⟩ := rdTerm_good hx
    have g4 := rdTerm_len hx
    have hX0 := Lib.hid (show rdSum L = rdMore l r m by rw [hTR.out, hx])
    have hP0 := Lib.hid (hP3.mono hg12.size)
    have hr0 := Lib.hid hr3
    have hg0 := Lib.hid (hg12.trans hg3)
    have hQ0 := Lib.hid (show PW l ∧ FewL (1 + (L1.length - r.length)) l ∧ (1 + (L1.length - r.length)) + 3 * r.length ≤ 300000 ∧ l.length + r.length ≤ 100000 from ⟨g1, g2, by omega, by omega⟩)
    clear hP3 hr3 hg3 hg12 hTR hx hr2 hV2 g1 g2 g3
    go_loopw [2] (fun v2 wr => ∃ (a : Option Addr) (n c : Nat) (p : List PT) (L2 : List UInt8) (m : Bool) (K : Nat), v2 = .slice a n c ∧ Hid (rdSum L = rdMore p L2 m) ∧ Hid (PolyAt wr wo.heap.size a n c p) ∧ Hid (PW p ∧ FewL K p ∧ K + 3 * L2.length ≤ 300000 ∧ p.length + L2.length ≤ 100000) ∧ Hid (RdrAt wr R L2 m) ∧ Hid (wo.grownBy wr (some R))) (fun _ wr => rdrLen wr R)
    case atStart => exact ⟨a1, n1, c1, l, r, m, _, rfl, hX0, hP0, hQ0, hr0, hg0⟩
    case round =>
      clear hX0 hP0 hQ0 hr0 hg0
      obtain ⟨a, n, c, p, L2, m, K, rfl, hX, hP, hQ, hr, hg⟩ := hrel
      have hVr : ErrV wr := hV.grown hg.out hne7
      have t0 := hr.out.c0
      cases L2 with
      | nil =>
        go_wp2_with fail
        have hz : rdSum L = some (p, m) := by rw [hX.out, rdMore]
        rw [hz]
        go_ret
        exact ⟨hg.out, a, n, c, rfl, hP.out, hr.out⟩
      | cons b r2 =>
        have hlc : (b :: r2).length ≤ 100000 := by have := hQ.out; omega
        have hl2 : r2.length < 100000 := by have := hlc; simp only [List.length_cons] at this; omega
        have hm0 := Lib.hid (rdrLen_at hr.out)
        by_cases h45 : b = 45
        · subst h45
          have hX1 : Hid (rdSum L = match rdTerm r2 m true with | none => none | some (l', r', m') => rdMore (addL p l') r' m') := Lib.hid (by rw [hX.out, rdMore]; simp; split <;> simp_all)
          clear hX
          cases hy : rdTerm r2 m true with
          | none =>
            have hz : rdSum L = none := by rw [hX1.out, hy]
            go_wp2_with fail
            refine (rdTakes_c wr R (45 :: r2) m 45 hr.out (by omega) (by omega) (by omega)).mono ?_
            rintro e w4 ⟨rfl, hr4, hg4⟩
            rw [show headIs (45 :: r2) 45 = true by simp [headIs]] at hr4 ⊢
            simp only [if_true, List.tail_cons] at hr4
            have hg45 := hg.out.trans hg4
            have hr5 := hr4
            go_wp2_with (first | (go_at_call 130; refine (must_yes _).mono ?_; rintro e w6 ⟨rfl, rfl⟩) | (go_at_call 128; refine (term_c _ R r2 m true hr5 (by omega) (hV.grown hg45 hne7) hR).mono ?_; rintro e w7 ⟨hg7, hp7⟩; rw [hy] at hp7; subst hp7))
            refine ⟨rfl, ?_⟩
            rw [hz]
            exact SumPost.no (hg45.trans hg7)
          | some x =>
            obtain ⟨l', r', m'⟩ := x
            have hX2 := Lib.hid (show rdSum L = rdMore (addL p l') r' m' by rw [hX1.out, hy])
            obtain ⟨g1, g2, g3⟩ := rdTerm_good hy
            have g4 := rdTerm_len hy
            obtain ⟨q1, q2, q3, q4⟩ := hQ.out
            have q5 := addL_length p l'
            simp only [List.length_cons] at q3 q4
            have hQ2 := Lib.hid (show PW (addL p l') ∧ FewL (K + (1 + (r2.length - r'.length)) + 1) (addL p l') ∧ (K + (1 + (r2.length - r'.length)) + 1) + 3 * r'.length ≤ 300000 ∧ (addL p l').length + r'.length ≤ 100000 from ⟨q1.add g1, FewL.add p l' q1.good g1.good q2 g2, by omega, by omega⟩)
            clear hX1
            go_wp2_with fail
            refine (rdTakes_c wr R (45 :: r2) m 45 hr.out (by omega) (by omega) (by omega)).mono ?_
            rintro e w4 ⟨rfl, hr4, hg4⟩
            rw [show headIs (45 :: r2) 45 = true by simp [headIs]] at hr4 ⊢
            simp only [if_true, List.tail_cons] at hr4
            have hg45 := hg.out.trans hg4
            have hr5 := hr4
            go_wp2_with (first | (go_at_call 130; refine (must_yes _).mono ?_; rintro e w6 ⟨rfl, rfl⟩) | (go_at_call 128; refine (term_c _ R r2 m true hr5 (by omega) (hV.grown hg45 hne7) hR).mono ?_; rintro e w7 ⟨hg7, hp7⟩; rw [hy] at hp7; obtain ⟨a7, n7, c7, rfl, hP7, hr7⟩ := hp7; have hP8 := hP.out.butR (hg4.trans hg7) (fun k hk => by cases hk; exact hRlt); have e7 := hP7.len; have e8 := hP8.len) | (go_at_call 32; refine (polyAdd_c _ _ a n c p hP8 q1 K q2 _ a7 n7 c7 l' hP7 g1 (1 + (r2.length - r'.length)) g2 (by omega) (by omega) (by omega)).mono ?_; rintro e w9 ⟨a9, n9, c9, rfl, hP9, hb9⟩))
            go_roundw
            case rel => exact ⟨a9, n9, c9, addL p l', r', m', _, rfl, hX2, Lib.hid (hP9.mono (hg45.trans hg7).size), hQ2, Lib.hid (hr7.keep hb9), Lib.hid ((hg45.trans hg7).trans (grown_below hb9 _))⟩
            case measure => rw [rdrLen_at (hr7.keep hb9), hm0.out]; simp only [List.length_cons]; omega
        · by_cases h43 : b = 43
          · subst h43
            have hX1 : Hid (rdSum L = match rdTerm r2 m false with | none => none | some (l', r', m') => rdMore (addL p l') r' m') := Lib.hid (by rw [hX.out, rdMore]; simp; split <;> simp_all)
            clear hX
            cases hy : rdTerm r2 m false with
            | none =>
              have hz : rdSum L = none := by rw [hX1.out, hy]
              go_wp2_with fail
              refine (rdTakes_c wr R (43 :: r2) m 45 hr.out (by omega) (by omega) (by omega)).mono ?_
              rintro e w4 ⟨rfl, hr4, hg4⟩
              rw [show headIs (43 :: r2) 45 = false by simp [headIs]] at hr4 ⊢
              simp only [Bool.false_eq_true, if_false] at hr4
              go_wp2_with (first | (go_at_call 129; refine (rdTakes_c w4 R (43 :: r2) m 43 hr4 (by omega) (by omega) (by omega)).mono ?_; rintro e w5 ⟨rfl, hr5, hg5⟩; rw [show headIs (43 :: r2) 43 = true by simp [headIs]] at hr5 ⊢; simp only [if_true, List.tail_cons] at hr5; have hg45 := (hg.out.trans hg4).trans hg5) | (go_at_call 130; refine (must_yes _).mono ?_; rintro e w6 ⟨rfl, rfl⟩) | (go_at_call 128; refine (term_c _ R r2 m false hr5 (by omega) (hV.grown hg45 hne7) hR).mono ?_; rintro e w7 ⟨hg7, hp7⟩; rw [hy] at hp7; subst hp7))
              refine ⟨rfl, ?_⟩
              rw [hz]
              exact SumPost.no (hg45.trans hg7)
            | some x =>
              obtain ⟨l', r', m'⟩ := x
              have hX2 := Lib.hid (show rdSum L = rdMore (addL p l') r' m' by rw [hX1.out, hy])
              obtain ⟨g1, g2, g3⟩ := rdTerm_good hy
              have g4 := rdTerm_len hy
              obtain ⟨q1, q2, q3, q4⟩ := hQ.out
              have q5 := addL_length p l'
              simp only [List.length_cons] at q3 q4
              have hQ2 := Lib.hid (show PW (addL p l') ∧ FewL (K + (1 + (r2.length - r'.length)) + 1) (addL p l') ∧ (K + (1 + (r2.length - r'.length)) + 1) + 3 * r'.length ≤ 300000 ∧ (addL p l').length + r'.length ≤ 100000 from ⟨q1.add g1, FewL.add p l' q1.good g1.good q2 g2, by omega, by omega⟩)
              clear hX1
              go_wp2_with fail
              refine (rdTakes_c wr R (43 :: r2) m 45 hr.out (by omega) (by omega) (by omega)).mono ?_
              rintro e w4 ⟨rfl, hr4, hg4⟩
              rw [show headIs (43 :: r2) 45 = false by simp [headIs]] at hr4 ⊢
              simp only [Bool.false_eq_true, if_false] at hr4
              go_wp2_with (first | (go_at_call 129; refine (rdTakes_c w4 R (43 :: r2) m 43 hr4 (by omega) (by omega) (by omega)).mono ?_; rintro e w5 ⟨rfl, hr5, hg5⟩; rw [show headIs (43 :: r2) 43 = true by simp [headIs]] at hr5 ⊢; simp only [if_true, List.tail_cons] at hr5; have hg45 := (hg.out.trans hg4).trans hg5) | (go_at_call 130; refine (must_yes _).mono ?_; rintro e w6 ⟨rfl, rfl⟩) | (go_at_call 128; refine (term_c _ R r2 m false hr5 (by omega) (hV.grown hg45 hne7) hR).mono ?_; rintro e w7 ⟨hg7, hp7⟩; rw [hy] at hp7; obtain ⟨a7, n7, c7, rfl, hP7, hr7⟩ := hp7; have hP8 := hP.out.butR ((hg4.trans hg5).trans hg7) (fun k hk => by cases hk; exact hRlt); have e7 := hP7.len; have e8 := hP8.len) | (go_at_call 32; refine (polyAdd_c _ _ a n c p hP8 q1 K q2 _ a7 n7 c7 l' hP7 g1 (1 + (r2.length - r'.length)) g2 (by omega) (by omega) (by omega)).mono ?_; rintro e w9 ⟨a9, n9, c9, rfl, hP9, hb9⟩))
              go_roundw
              case rel => exact ⟨a9, n9, c9, addL p l', r', m', _, rfl, hX2, Lib.hid (hP9.mono (hg45.trans hg7).size), hQ2, Lib.hid (hr7.keep hb9), Lib.hid ((hg45.trans hg7).trans (grown_below hb9 _))⟩
              case measure => rw [rdrLen_at (hr7.keep hb9), hm0.out]; simp only [List.length_cons]; omega
          · have h1 : headIs (b :: r2) 45 = false := by simpa [headIs] using fun e : (b.toNat : Int) = 45 => h45 (UInt8.toNat_inj.1 (by show b.toNat = 45; omega))
            have h2 : headIs (b :: r2) 43 = false := by simpa [headIs] using fun e : (b.toNat : Int) = 43 => h43 (UInt8.toNat_inj.1 (by show b.toNat = 43; omega))
            have hz : rdSum L = none := by rw [hX.out, rdMore]; simp [h45, h43]
            go_wp2_with fail
            refine (rdTakes_c wr R (b :: r2) m 45 hr.out (by omega) (by omega) (by omega)).mono ?_
            rintro e w4 ⟨rfl, hr4, hg4⟩
            rw [h1] at hr4 ⊢
            simp only [Bool.false_eq_true, if_false] at hr4
            go_wp2_with (first | (go_at_call 129; refine (rdTakes_c w4 R (b :: r2) m 43 hr4 (by omega) (by omega) (by omega)).mono ?_; rintro e w5 ⟨rfl, hr5, hg5⟩; rw [h2]) | (go_at_call 130; refine (must_no _).mono ?_; rintro e w6 ⟨rfl, rfl⟩))
            refine ⟨rfl, ?_⟩
            rw [hz]
            exact SumPost.no ((hg.out.trans hg4).trans hg5)
end Go.Proofs.YtdamegaedmckbaaGreatDoor
end
section
namespace Go.Proofs.YtdamegaedmckbaaGreatDoor
open Go.RowKit

/-- The deferred function, where nothing panics. -/
theorem catch_idle (p q : Addr) (w : World) :
    CallsD Tryz.prog 46 #[.pointer (some p), .pointer (some q)] .returning w fun e u' w' => e = .returned (.tuple #[]) ∧ u' = .returning ∧ w' = w := by
  have hnil : ∀ w : World, (binOp BinOp.neq 20 .nilIface .nilIface).run Tryz.prog w = .ok (.bool false) w := fun _ => by kernel_rfl
  refine callsD_of_wpS Tryz.func46 rfl fun c₀ cs hu => ?_
  simp only [Tryz.ntmps46, List.size_toArray, List.length_cons, List.length_nil, Nat.reduceAdd, Nat.reduceSub, Array.replicate_succ, Array.replicate_zero, List.push_toArray, List.append_toArray, List.nil_append, List.cons_append]
  apply wpS_seq
  apply wpS_region
  simp [wpOpsS, go_sem, recoverD, hu, Exit.thenS]
  apply wpS_seq
  apply wpS_region
  simp [wpOpsS, go_sem, Exit.thenS, hnil]
  refine wpS_cond (t := false) (by simp [Act.eval, Array.replicate]) ?_
  refine wpS_of_wp ?_
  go_wp2_with fail
  cases c₀
  simp_all [bodyPostS, results, Tryz.results46, Exit.thenS]
theorem below_of_grown {w w' : World} {B R : Nat} (h : w.grownBy w' (some R)) (hR : B ≤ R) (hB : B ≤ w.heap.size) : Below B w w' := ⟨h.os, h.tape, h.output, h.size, fun k hk => h.block k (by omega) (by simp; omega)⟩
set_option maxRecDepth 100000 in
/-- The deferred function, where the reader has panicked. -/
theorem catch_noSum (b c : Nat) (w : World) (v1 v2 : Value) (h1 : w.cell? ⟨b, 0, none⟩ = some v1) (h2 : w.cell? ⟨c, 0, none⟩ = some v2) (f1 : w.frozen? ⟨b, 0, none⟩ = false) (f2 : w.frozen? ⟨c, 0, none⟩ = false) (hne : b ≠ c) :
    CallsD Tryz.prog 46 #[.pointer (some ⟨b, 0, none⟩), .pointer (some ⟨c, 0, none⟩)] (.panicking noSum) w fun e u' w' => e = .returned (.tuple #[]) ∧ u' = .panicking [{ v := .iface 88 (.agg #[]), recovered := true }] ∧ w' = (w.setCell ⟨b, 0, none⟩ (.slice none 0 0)).setCell ⟨c, 0, none⟩ (.int .i64 4) := by
  have hta : ∀ w : World, (Instr.typeAssert (.iface 88 (.agg #[])) 20 88 false).run Tryz.prog w = .ok (.agg #[]) w := fun _ => by kernel_rfl
  have hnil : ∀ w : World, (binOp BinOp.neq 20 (.iface 88 (.agg #[])) .nilIface).run Tryz.prog w = .ok (.bool true) w := fun _ => by kernel_rfl
  refine callsD_of_wpS Tryz.func46 rfl fun c₀ cs hu => ?_
  simp only [Tryz.ntmps46, List.size_toArray, List.length_cons, List.length_nil, Nat.reduceAdd, Nat.reduceSub, Array.replicate_succ, Array.replicate_zero, List.push_toArray, List.append_toArray, List.nil_append, List.cons_append]
  apply wpS_seq
  apply wpS_region
  simp [wpOpsS, go_sem, recoverD, hu, Exit.thenS]
  apply wpS_seq
  apply wpS_region
  simp [wpOpsS, go_sem, Exit.thenS, hnil]
  refine wpS_cond (t := true) (by simp [Act.eval, Array.replicate]) ?_
  refine wpS_of_wp ?_
  go_wp2_with fail
  cases c₀
  simp_all [bodyPostS, results, Tryz.results46, Exit.thenS]
set_option maxRecDepth 100000 in
set_option maxHeartbeats 4000000 in
theorem parse_c (w : World) (L : List UInt8) (hL : L.length < 1000000000) (hV : ErrV w) (h7 : 7 < w.heap.size) :
    Calls Tryz.prog 17 #[.string ⟨L.toArray⟩] w fun e w' => ∃ a n c, e = .returned (.tuple #[.slice a n c, .int .i64 (rdText L).2]) ∧ PolyAt w' w.heap.size a n c (rdText L).1 ∧ Below w.heap.size w w' := by
  go_enter_defers Tryz.func17, Tryz.ntmps17
  by_cases h65 : 65536 < L.length
  · have h65' : ¬ ((L.length : Int) ≤ 65536) := by omega
    have hz : rdText L = ([], 3) := by unfold rdText; rw [if_pos h65]
    rw [hz]
    go_wp2_with fail
    simp [bodyPostD, Leaves, settle, results, Tryz.results17, go_sem]
    exact ⟨none, 0, 0, ⟨rfl, rfl, rfl⟩, PolyAt.nil _ _, by go_grown⟩
  · have h65' : (L.length : Int) ≤ 65536 := by omega
    obtain ⟨W0, hW0⟩ : ∃ W0, W0 = (((w.alloc (Obj.cells #[Value.slice none 0 0] 23)).alloc (Obj.cells #[Value.int IntKind.i64 0] 29)).alloc (Obj.cells #[Value.string { data := L.toArray }, Value.bool false] 91)) := ⟨_, rfl⟩
    have hr0 : RdrAt W0 (w.heap.size + 1 + 1) L false := by rw [hW0]; exact ⟨by simp [go_sem], by simp [go_sem], by simp [go_sem], by simp [go_sem]⟩
    have hb0 : Below w.heap.size w W0 := by rw [hW0]; go_grown
    have hV0 : ErrV W0 := hV.grown (grown_below hb0 none) (by simp)
    have p0 : W0.cell? ⟨w.heap.size, 0, none⟩ = some (.slice none 0 0) := by rw [hW0]; simp [go_sem]
    have p1 : W0.cell? ⟨w.heap.size + 1, 0, none⟩ = some (.int .i64 0) := by rw [hW0]; simp [go_sem]
    have q0 : W0.frozen? ⟨w.heap.size, 0, none⟩ = false := by rw [hW0]; simp [go_sem]
    have q1 : W0.frozen? ⟨w.heap.size + 1, 0, none⟩ = false := by rw [hW0]; simp [go_sem]
    have hz0 : w.heap.size + 3 ≤ W0.heap.size := by rw [hW0]; simp
    have hrs := readSum_c W0 (w.heap.size + 1 + 1) L hr0 (by omega) hV0 (by omega)
    cases hx : rdSum L with
    | none =>
      have hz : rdText L = ([], 4) := by unfold rdText; rw [if_neg h65, hx]
      rw [hz]
      go_wp2_with fail
      rw [← hW0]
      refine hrs.mono ?_
      rintro e w1 ⟨hg, hp⟩
      rw [hx] at hp
      subst hp
      have c0 := hg.cell p0 (by simp; omega)
      have c1 := hg.cell p1 (by simp)
      have d0 : w1.frozen? ⟨w.heap.size, 0, none⟩ = false := (grown_frozen hg (by omega) (by simp; omega)).trans q0
      have d1 : w1.frozen? ⟨w.heap.size + 1, 0, none⟩ = false := (grown_frozen hg (by omega) (by simp)).trans q1
      refine leaves_cons (f := 46) (args := #[.pointer (some ⟨w.heap.size, 0, none⟩), .pointer (some ⟨w.heap.size + 1, 0, none⟩)]) (by simp) (by simp [go_sem]) ?_
      refine (catch_noSum _ _ w1 _ _ c0 c1 d0 d1 (by omega)).mono ?_
      rintro e u' w2 ⟨rfl, rfl, rfl⟩
      simp [c0, c1, Leaves, settle, results, Tryz.results17, go_sem]
      exact ⟨none, 0, 0, ⟨rfl, rfl, rfl⟩, PolyAt.nil _ _, ((hb0.trans (below_of_grown hg (by omega) (by omega))).trans (below_of_grown (grown_set _ (grown_refl _ _)) (Nat.le_refl _) (by have := hg.size; omega))).trans (below_of_grown (R := w.heap.size + 1) (grown_set _ (grown_refl _ _)) (by omega) (by have := hg.size; simp; omega))⟩
    | some x =>
      obtain ⟨l, m⟩ := x
      cases m
      · have hz : rdText L = (l, 0) := by unfold rdText; rw [if_neg h65, hx]; rfl
        rw [hz]
        go_wp2_with fail
        rw [← hW0]
        refine hrs.mono ?_
        rintro e w1 ⟨hg, hp⟩
        rw [hx] at hp
        obtain ⟨a, n, c, rfl, hP, hr⟩ := hp
        have c0 := hg.cell p0 (by simp; omega)
        have c1 := hg.cell p1 (by simp)
        have d0 : w1.frozen? ⟨w.heap.size, 0, none⟩ = false := (grown_frozen hg (by omega) (by simp; omega)).trans q0
        have d1 : w1.frozen? ⟨w.heap.size + 1, 0, none⟩ = false := (grown_frozen hg (by omega) (by simp)).trans q1
        have t1 := hr.c1
        go_wp2_with fail
        refine leaves_cons (f := 46) (args := #[.pointer (some ⟨w.heap.size, 0, none⟩), .pointer (some ⟨w.heap.size + 1, 0, none⟩)]) (by simp) (by simp [go_sem]) ?_
        refine (catch_idle _ _ _).mono ?_
        rintro e u' w2 ⟨rfl, rfl, rfl⟩
        simp [c0, c1, Leaves, settle, results, Tryz.results17, go_sem]
        have hzz := hg.size
        have gA := grown_set (R := w.heap.size) (o := 0) (.slice a n c) (grown_set (R := w.heap.size) (o := 0) (.slice a n c) (grown_refl w1 (some w.heap.size)))
        have gB := grown_set (R := w.heap.size + 1) (o := 0) (.int .i64 0) (grown_refl ((w1.setCell ⟨w.heap.size, 0, none⟩ (.slice a n c)).setCell ⟨w.heap.size, 0, none⟩ (.slice a n c)) (some (w.heap.size + 1)))
        exact ⟨a, n, c, ⟨rfl, rfl, rfl⟩, ((hP.butR gA (fun k hk => by cases hk; omega)).butR gB (fun k hk => by cases hk; omega)).mono hb0.size, ((hb0.trans (below_of_grown hg (by omega) (by omega))).trans (below_of_grown gA (Nat.le_refl _) (by omega))).trans (below_of_grown (R := w.heap.size + 1) gB (by omega) (by simp; omega))⟩
      · have hz : rdText L = ([], 3) := by unfold rdText; rw [if_neg h65, hx]; rfl
        rw [hz]
        go_wp2_with fail
        rw [← hW0]
        refine hrs.mono ?_
        rintro e w1 ⟨hg, hp⟩
        rw [hx] at hp
        obtain ⟨a, n, c, rfl, hP, hr⟩ := hp
        have c0 := hg.cell p0 (by simp; omega)
        have c1 := hg.cell p1 (by simp)
        have d0 : w1.frozen? ⟨w.heap.size, 0, none⟩ = false := (grown_frozen hg (by omega) (by simp; omega)).trans q0
        have d1 : w1.frozen? ⟨w.heap.size + 1, 0, none⟩ = false := (grown_frozen hg (by omega) (by simp)).trans q1
        have t1 := hr.c1
        go_wp2_with fail
        refine leaves_cons (f := 46) (args := #[.pointer (some ⟨w.heap.size, 0, none⟩), .pointer (some ⟨w.heap.size + 1, 0, none⟩)]) (by simp) (by simp [go_sem]) ?_
        refine (catch_idle _ _ _).mono ?_
        rintro e u' w2 ⟨rfl, rfl, rfl⟩
        simp [c0, c1, Leaves, settle, results, Tryz.results17, go_sem]
        have hzz := hg.size
        have gA := grown_set (R := w.heap.size) (o := 0) (.slice none 0 0) (grown_set (R := w.heap.size) (o := 0) (.slice a n c) (grown_refl w1 (some w.heap.size)))
        have gB := grown_set (R := w.heap.size + 1) (o := 0) (.int .i64 3) (grown_refl ((w1.setCell ⟨w.heap.size, 0, none⟩ (.slice a n c)).setCell ⟨w.heap.size, 0, none⟩ (.slice none 0 0)) (some (w.heap.size + 1)))
        exact ⟨none, 0, 0, ⟨rfl, rfl, rfl⟩, PolyAt.nil _ _, ((hb0.trans (below_of_grown hg (by omega) (by omega))).trans (below_of_grown gA (Nat.le_refl _) (by omega))).trans (below_of_grown (R := w.heap.size + 1) gB (by omega) (by simp; omega))⟩
end Go.Proofs.YtdamegaedmckbaaGreatDoor
end
section
namespace Go.Proofs.YtdamegaedmckbaaGreatDoor
open Go.RowKit
set_option maxRecDepth 100000 in
set_option maxHeartbeats 1000000 in
theorem canon_c (w : World) (s want : List UInt8) (l : List PT) (hs : s.length ≤ 3000) (hr : rdText s = (l, 0)) (hw : txL l = want) (hT : Tab w) (hV : ErrV w) (h7 : 7 < w.heap.size) :
    Calls Tryz.prog 91 #[.string ⟨s.toArray⟩, .string ⟨want.toArray⟩] w (RetTrue w) := by
  have hg := rdText_good hr
  have hp := parse_c w s (by omega) hV h7
  rw [hr] at hp
  subst hw
  go_enter Tryz.func91, Tryz.ntmps91
  go_wp2_with fail
  refine hp.mono ?_
  rintro e w1 ⟨a, n, c, rfl, P1, hb1⟩
  have hn : n ≤ 1000000 := by have := P1.len; omega
  have HG := Lib.hid hg
  clear hg hr
  go_wp2_with fail
  refine (check_at w1 _ a n c l P1 HG.out.1 (HG.out.2.1.mono (by omega))).mono ?_
  rintro e w2 ⟨rfl, hb2⟩
  go_wp2_with fail
  refine (text_at w2 _ a n c l (P1.keep hb2) HG.out.1 (HG.out.2.1.mono (by omega)) hn (hT.keep (hb1.trans (hb2.mono hb1.size)))).mono ?_
  rintro e w3 ⟨rfl, hb3⟩
  go_wp2_with fail
  go_ret
  exact ⟨by simp, (hb1.trans (hb2.mono hb1.size)).trans (hb3.mono (by have := hb1.size; have := hb2.size; omega))⟩
set_option maxRecDepth 100000 in
set_option maxHeartbeats 1000000 in
theorem fails_c (w : World) (s : List UInt8) (x : Int) (hs : s.length ≤ 3000) (hr : rdText s = ([], x)) (hV : ErrV w) (h7 : 7 < w.heap.size) :
    Calls Tryz.prog 92 #[.string ⟨s.toArray⟩, .int .i64 x] w (RetTrue w) := by
  have hp := parse_c w s (by omega) hV h7
  rw [hr] at hp
  go_enter Tryz.func92, Tryz.ntmps92
  go_wp2_with fail
  refine hp.mono ?_
  rintro e w1 ⟨a, n, c, rfl, P1, hb1⟩
  obtain rfl : n = 0 := P1.len.symm
  go_wp2_with fail
  go_ret
  exact ⟨by simp, hb1⟩
end Go.Proofs.YtdamegaedmckbaaGreatDoor
end
section
namespace Go.Proofs.YtdamegaedmckbaaGreatDoor
open Go.RowKit

set_option maxRecDepth 100000 in
set_option maxHeartbeats 4000000 in
theorem alive_c (w : World) (hT : Tab w) (hV : ErrV w) (h7 : 7 < w.heap.size) : Calls Tryz.prog 22 #[] w (RetTrue w) := by
  have B0 := Below.refl w.heap.size w
  go_enter Tryz.func22, Tryz.ntmps22
  go_wp2_with fail
  refine (canon_c _ [51, 32, 120, 94, 50, 32, 121, 32, 45, 32, 49, 47, 50, 32, 122, 32, 43, 32, 55] [51, 32, 120, 94, 50, 32, 121, 32, 45, 32, 49, 47, 50, 32, 122, 32, 43, 32, 55] _ (by decide) al_r0 al_t0 (hT.keep B0) (hV.grown (grown_below B0 none) (by simp)) (by have := B0.size; omega)).mono ?_
  rintro e w1 ⟨rfl, hb1⟩
  have B1 := B0.trans (hb1.mono B0.size)
  clear hb1
  go_wp2_with fail
  refine (canon_c _ [49, 32, 45, 32, 120] [45, 120, 32, 43, 32, 49] _ (by decide) al_r1 al_t1 (hT.keep B1) (hV.grown (grown_below B1 none) (by simp)) (by have := B1.size; omega)).mono ?_
  rintro e w2 ⟨rfl, hb2⟩
  have B2 := B1.trans (hb2.mono B1.size)
  clear hb2
  go_wp2_with fail
  refine (canon_c _ [49, 32, 45, 32, 120, 32, 43, 32, 120] [49] _ (by decide) al_r2 al_t2 (hT.keep B2) (hV.grown (grown_below B2 none) (by simp)) (by have := B2.size; omega)).mono ?_
  rintro e w3 ⟨rfl, hb3⟩
  have B3 := B2.trans (hb3.mono B2.size)
  clear hb3
  go_wp2_with fail
  refine (canon_c _ [49, 47, 50, 120] [49, 47, 50, 32, 120] _ (by decide) al_r3 al_t3 (hT.keep B3) (hV.grown (grown_below B3 none) (by simp)) (by have := B3.size; omega)).mono ?_
  rintro e w4 ⟨rfl, hb4⟩
  have B4 := B3.trans (hb4.mono B3.size)
  clear hb4
  go_wp2_with fail
  refine (canon_c _ [54, 47, 52, 32, 121, 94, 50] [51, 47, 50, 32, 121, 94, 50] _ (by decide) al_r4 al_t4 (hT.keep B4) (hV.grown (grown_below B4 none) (by simp)) (by have := B4.size; omega)).mono ?_
  rintro e w5 ⟨rfl, hb5⟩
  have B5 := B4.trans (hb5.mono B4.size)
  clear hb5
  go_wp2_with fail
  refine (canon_c _ [50, 32, 51, 32, 120] [54, 32, 120] _ (by decide) al_r5 al_t5 (hT.keep B5) (hV.grown (grown_below B5 none) (by simp)) (by have := B5.size; omega)).mono ?_
  rintro e w6 ⟨rfl, hb6⟩
  have B6 := B5.trans (hb6.mono B5.size)
  clear hb6
  go_wp2_with fail
  refine (canon_c _ [120, 121, 120, 120] [120, 94, 51, 32, 121] _ (by decide) al_r6 al_t6 (hT.keep B6) (hV.grown (grown_below B6 none) (by simp)) (by have := B6.size; omega)).mono ?_
  rintro e w7 ⟨rfl, hb7⟩
  have B7 := B6.trans (hb7.mono B6.size)
  clear hb7
  go_wp2_with fail
  refine (canon_c _ [120, 32, 45, 32, 120] [48] _ (by decide) al_r7 al_t7 (hT.keep B7) (hV.grown (grown_below B7 none) (by simp)) (by have := B7.size; omega)).mono ?_
  rintro e w8 ⟨rfl, hb8⟩
  have B8 := B7.trans (hb8.mono B7.size)
  clear hb8
  go_wp2_with fail
  refine (text_at _ 0 none 0 0 [] (PolyAt.nil _ _) ⟨by simp, by simp, by simp⟩ (fun t ht => by cases ht) (by omega) (hT.keep B8)).mono ?_
  rintro e w9 ⟨rfl, hb9⟩
  have B9 := B8.trans (hb9.mono B8.size)
  clear hb9
  go_wp2_with fail
  refine (fails_c _ [50, 120, 42, 121, 32, 120, 32, 43, 32, 45, 51] 4 (by decide) al_f0 (hV.grown (grown_below B9 none) (by simp)) (by have := B9.size; omega)).mono ?_
  rintro e w10 ⟨rfl, hb10⟩
  have B10 := B9.trans (hb10.mono B9.size)
  clear hb10
  go_wp2_with fail
  refine (fails_c _ [120, 94, 48] 4 (by decide) al_f1 (hV.grown (grown_below B10 none) (by simp)) (by have := B10.size; omega)).mono ?_
  rintro e w11 ⟨rfl, hb11⟩
  have B11 := B10.trans (hb11.mono B10.size)
  clear hb11
  go_wp2_with fail
  refine (fails_c _ [120, 94, 49, 48, 48, 49] 3 (by decide) al_f2 (hV.grown (grown_below B11 none) (by simp)) (by have := B11.size; omega)).mono ?_
  rintro e w12 ⟨rfl, hb12⟩
  have B12 := B11.trans (hb12.mono B11.size)
  clear hb12
  go_wp2_with fail
  refine (fails_c _ [49, 47, 48] 4 (by decide) al_f3 (hV.grown (grown_below B12 none) (by simp)) (by have := B12.size; omega)).mono ?_
  rintro e w13 ⟨rfl, hb13⟩
  have B13 := B12.trans (hb13.mono B12.size)
  clear hb13
  go_wp2_with fail
  refine (fails_c _ [] 4 (by decide) al_f4 (hV.grown (grown_below B13 none) (by simp)) (by have := B13.size; omega)).mono ?_
  rintro e w14 ⟨rfl, hb14⟩
  have B14 := B13.trans (hb14.mono B13.size)
  clear hb14
  go_wp2_with fail
  refine (fails_c _ [120, 94, 32, 50] 4 (by decide) al_f5 (hV.grown (grown_below B14 none) (by simp)) (by have := B14.size; omega)).mono ?_
  rintro e w15 ⟨rfl, hb15⟩
  have B15 := B14.trans (hb15.mono B14.size)
  clear hb15
  go_wp2_with fail
  go_ret
  exact ⟨by simp, B15⟩
end Go.Proofs.YtdamegaedmckbaaGreatDoor
end
