/- The reader of the shipped package: sum. Condition: the variable ErrRange holds something. Parse of the shipped package. Condition: the variable ErrRange holds something. The document's answer, layer 6: Parse (function 18). No further condition. -/
import Derived.Test.YtdamegaedmckbaaGreatDoorQT45
import Derived.Test.YtdamegaedmckbaaGreatDoorQT29
import Derived.Test.YtdamegaedmckbaaGreatDoorQT34
import Derived.Test.YtdamegaedmckbaaGreatDoorQT42
import Derived.Test.YtdamegaedmckbaaGreatDoorQT44
import Derived.Recover
import Derived.Defers
import Derived.Test.YtdamegaedmckbaaGreatDoorQTZ
set_option linter.unusedSimpArgs false
set_option linter.unusedVariables false
set_option maxRecDepth 100000
set_option maxHeartbeats 4000000
section
namespace Go.Proofs.YtdamegaedmckbaaGreatDoor
open Go.RowKit
def SumPost (w : World) (R : Nat) (x : Option (List PT × Bool)) (e : Ending) (w' : World) : Prop :=
 w.grownBy w' (some R) ∧ match x with | none => e = .panicked noSum | some (l, m) => ∃ a n c, e = .returned (.slice a n c) ∧ PolyAt w' w.heap.size a n c l ∧ RdrAt w' R [] m
theorem SumPost.no {w w' : World} {R : Nat} (h : w.grownBy w' (some R)) : SumPost w R none (.panicked noSum) w' := ⟨h, rfl⟩
theorem readSum_c (wo : World) (R : Nat) (L : List UInt8) (h : RdrAt wo R L false) (hL : L.length < 65537) (hV : ErrV wo) (hR : 7 < R) :
  Calls Tryz.prog 47 #[.pointer (some ⟨R, 0, none⟩)] wo (SumPost wo R (rdSum L)) := by
 have hRlt := h.lt
 have hne7 : some 7 ≠ some R := by simp; omega
 have hsk := skp_le L
 go_enter Tryz.func47, Tryz.ntmps47
 go_wp2_with (first | (go_at_call 127; refine (skip_c _ R L false h qB).mono ?_; rintro e w1 ⟨rfl, hr1, hg1⟩))
 refine (rdTakes_c w1 R (skp L) false 45 hr1 qB qB qB).mono ?_
 rintro e w2 ⟨rfl, hr2, hg2⟩
 obtain ⟨L1, hL1⟩ : ∃ L1, L1 = (if headIs (skp L) 45 then (skp L).tail else skp L) := ⟨_, rfl⟩
 have hl1 : L1.length ≤ L.length := by
  rw [hL1]; split
  ·simp; omega
  ·exact hsk
 obtain ⟨ng, hng⟩ : ∃ ng, ng = headIs (skp L) 45 := ⟨_, rfl⟩
 have hTR : Hid (rdSum L = match rdTerm L1 false ng with | none => none | some (l, r, m) => rdMore l r m) := Lib.hid (by rw [hL1, hng]; rfl)
 rw [← hL1] at hr2
 rw [← hng]
 clear hL1 hng hr1
 have hg12 := hg1.trans hg2
 have hV2 : ErrV w2 := hV.grown hg12 hne7
 clear hg1 hg2
 cases hx : rdTerm L1 false ng with
 | none =>
  go_wp2_with fail
  refine (term_c w2 R L1 false ng hr2 qB hV2 hR).mono ?_
  rintro e w3 ⟨hg3, hp3⟩
  rw [hx] at hp3
  subst hp3
  have hz : rdSum L = none := by rw [hTR.out, hx]
  refine ⟨rfl, ?_⟩
  rw [hz]
  exact SumPost.no (hg12.trans hg3)
 | some x =>
  obtain ⟨l, r, m⟩ := x
  go_wp2_with (first | (go_at_call 128; refine (term_c w2 R L1 false ng hr2 qB hV2 hR).mono ?_; rintro e w3 ⟨hg3, hp3⟩; rw [hx] at hp3; obtain ⟨a1, n1, c1, rfl, hP3, hr3⟩ := hp3))
  obtain ⟨g1, g2, g3⟩ := rdTerm_good hx
  have g4 := rdTerm_len hx
  have hX0 := Lib.hid (show rdSum L = rdMore l r m by rw [hTR.out, hx])
  have hP0 := Lib.hid (hP3.mono hg12.size)
  have hr0 := Lib.hid hr3
  have hg0 := Lib.hid (hg12.trans hg3)
  have hQ0 := Lib.hid (show PW l ∧ FewL (1 + (L1.length - r.length)) l ∧ (1 + (L1.length - r.length)) + 3 * r.length ≤ 300000 ∧ l.length + r.length ≤ 100000 from ⟨g1, g2, by omega, by omega⟩)
  clear hP3 hr3 hg3 hg12 hTR hx hr2 hV2 g1 g2 g3
  go_loopw [2] (fun v2 wr => ∃ (a : Option Addr) (n c : Nat) (p : List PT) (L2 : List UInt8) (m : Bool) (K : Nat), v2 = .slice a n c ∧ Hid (rdSum L = rdMore p L2 m) ∧ Hid (PolyAt wr wo.heap.size a n c p) ∧ Hid (PW p ∧ FewL K p ∧ K + 3 * L2.length ≤ 300000 ∧ p.length + L2.length ≤ 100000) ∧ Hid (RdrAt wr R L2 m) ∧ Hid (wo.grownBy wr (some R))) (fun _ wr => rdrLen wr R)
  case atStart => exact ⟨a1, n1, c1, l, r, m, _, rfl, hX0, hP0, hQ0, hr0, hg0⟩
  case round =>
   clear hX0 hP0 hQ0 hr0 hg0
   obtain ⟨a, n, c, p, L2, m, K, rfl, hX, hP, hQ, hr, hg⟩ := hrel
   have hVr : ErrV wr := hV.grown hg.out hne7
   have t0 := hr.out.c0
   cases L2 with
   | nil =>
    go_wp2_with fail
    have hz : rdSum L = some (p, m) := by rw [hX.out, rdMore]
    rw [hz]
    go_ret
    exact ⟨hg.out, a, n, c, rfl, hP.out, hr.out⟩
   | cons b r2 =>
    have hlc : (b :: r2).length ≤ 100000 := by have := hQ.out; omega
    have hl2 : r2.length < 100000 := by have := hlc; simp only [List.length_cons] at this; omega
    have hm0 := Lib.hid (rdrLen_at hr.out)
    by_cases h45 : b = 45
    ·subst h45
     have hX1 : Hid (rdSum L = match rdTerm r2 m true with | none => none | some (l', r', m') => rdMore (addL p l') r' m') := Lib.hid (by rw [hX.out, rdMore]; simp; split <;> simp_all)
     clear hX
     cases hy : rdTerm r2 m true with
     | none =>
      have hz : rdSum L = none := by rw [hX1.out, hy]
      go_wp2_with fail
      refine (rdTakes_c wr R (45 :: r2) m 45 hr.out qB qB qB).mono ?_
      rintro e w4 ⟨rfl, hr4, hg4⟩
      rw [show headIs (45 :: r2) 45 = true by simp [headIs]] at hr4 ⊢
      simp only [if_true, List.tail_cons] at hr4
      have hg45 := hg.out.trans hg4
      have hr5 := hr4
      go_wp2_with (first | (go_at_call 130; refine (must_yes _).mono ?_; rintro e w6 ⟨rfl, rfl⟩) | (go_at_call 128; refine (term_c _ R r2 m true hr5 qB (hV.grown hg45 hne7) hR).mono ?_; rintro e w7 ⟨hg7, hp7⟩; rw [hy] at hp7; subst hp7))
      refine ⟨rfl, ?_⟩
      rw [hz]
      exact SumPost.no (hg45.trans hg7)
     | some x =>
      obtain ⟨l', r', m'⟩ := x
      have hX2 := Lib.hid (show rdSum L = rdMore (addL p l') r' m' by rw [hX1.out, hy])
      obtain ⟨g1, g2, g3⟩ := rdTerm_good hy
      have g4 := rdTerm_len hy
      obtain ⟨q1, q2, q3, q4⟩ := hQ.out
      have q5 := addL_length p l'
      simp only [List.length_cons] at q3 q4
      have hQ2 := Lib.hid (show PW (addL p l') ∧ FewL (K + (1 + (r2.length - r'.length)) + 1) (addL p l') ∧ (K + (1 + (r2.length - r'.length)) + 1) + 3 * r'.length ≤ 300000 ∧ (addL p l').length + r'.length ≤ 100000 from ⟨q1.add g1, FewL.add p l' q1.good g1.good q2 g2, by omega, by omega⟩)
      clear hX1
      go_wp2_with fail
      refine (rdTakes_c wr R (45 :: r2) m 45 hr.out qB qB qB).mono ?_
      rintro e w4 ⟨rfl, hr4, hg4⟩
      rw [show headIs (45 :: r2) 45 = true by simp [headIs]] at hr4 ⊢
      simp only [if_true, List.tail_cons] at hr4
      have hg45 := hg.out.trans hg4
      have hr5 := hr4
      go_wp2_with (first | (go_at_call 130; refine (must_yes _).mono ?_; rintro e w6 ⟨rfl, rfl⟩) | (go_at_call 128; refine (term_c _ R r2 m true hr5 qB (hV.grown hg45 hne7) hR).mono ?_; rintro e w7 ⟨hg7, hp7⟩; rw [hy] at hp7; obtain ⟨a7, n7, c7, rfl, hP7, hr7⟩ := hp7; have hP8 := hP.out.butR (hg4.trans hg7) (fun k hk => by cases hk; exact hRlt); have e7 := hP7.len; have e8 := hP8.len) | (go_at_call 32; refine (polyAdd_c _ _ a n c p hP8 q1 K q2 _ a7 n7 c7 l' hP7 g1 (1 + (r2.length - r'.length)) g2 qB qB qB).mono ?_; rintro e w9 ⟨a9, n9, c9, rfl, hP9, hb9⟩))
      exact qCi
    ·by_cases h43 : b = 43
     ·subst h43
      have hX1 : Hid (rdSum L = match rdTerm r2 m false with | none => none | some (l', r', m') => rdMore (addL p l') r' m') := Lib.hid (by rw [hX.out, rdMore]; simp; split <;> simp_all)
      clear hX
      cases hy : rdTerm r2 m false with
      | none =>
       have hz : rdSum L = none := by rw [hX1.out, hy]
       go_wp2_with fail
       refine (rdTakes_c wr R (43 :: r2) m 45 hr.out qB qB qB).mono ?_
       rintro e w4 ⟨rfl, hr4, hg4⟩
       rw [show headIs (43 :: r2) 45 = false by simp [headIs]] at hr4 ⊢
       simp only [Bool.false_eq_true, if_false] at hr4
       go_wp2_with (first | (go_at_call 129; refine (rdTakes_c w4 R (43 :: r2) m 43 hr4 qB qB qB).mono ?_; rintro e w5 ⟨rfl, hr5, hg5⟩; rw [show headIs (43 :: r2) 43 = true by simp [headIs]] at hr5 ⊢; simp only [if_true, List.tail_cons] at hr5; have hg45 := (hg.out.trans hg4).trans hg5) | (go_at_call 130; refine (must_yes _).mono ?_; rintro e w6 ⟨rfl, rfl⟩) | (go_at_call 128; refine (term_c _ R r2 m false hr5 qB (hV.grown hg45 hne7) hR).mono ?_; rintro e w7 ⟨hg7, hp7⟩; rw [hy] at hp7; subst hp7))
       refine ⟨rfl, ?_⟩
       rw [hz]
       exact SumPost.no (hg45.trans hg7)
      | some x =>
       obtain ⟨l', r', m'⟩ := x
       have hX2 := Lib.hid (show rdSum L = rdMore (addL p l') r' m' by rw [hX1.out, hy])
       obtain ⟨g1, g2, g3⟩ := rdTerm_good hy
       have g4 := rdTerm_len hy
       obtain ⟨q1, q2, q3, q4⟩ := hQ.out
       have q5 := addL_length p l'
       simp only [List.length_cons] at q3 q4
       have hQ2 := Lib.hid (show PW (addL p l') ∧ FewL (K + (1 + (r2.length - r'.length)) + 1) (addL p l') ∧ (K + (1 + (r2.length - r'.length)) + 1) + 3 * r'.length ≤ 300000 ∧ (addL p l').length + r'.length ≤ 100000 from ⟨q1.add g1, FewL.add p l' q1.good g1.good q2 g2, by omega, by omega⟩)
       clear hX1
       go_wp2_with fail
       refine (rdTakes_c wr R (43 :: r2) m 45 hr.out qB qB qB).mono ?_
       rintro e w4 ⟨rfl, hr4, hg4⟩
       rw [show headIs (43 :: r2) 45 = false by simp [headIs]] at hr4 ⊢
       simp only [Bool.false_eq_true, if_false] at hr4
       go_wp2_with (first | (go_at_call 129; refine (rdTakes_c w4 R (43 :: r2) m 43 hr4 qB qB qB).mono ?_; rintro e w5 ⟨rfl, hr5, hg5⟩; rw [show headIs (43 :: r2) 43 = true by simp [headIs]] at hr5 ⊢; simp only [if_true, List.tail_cons] at hr5; have hg45 := (hg.out.trans hg4).trans hg5) | (go_at_call 130; refine (must_yes _).mono ?_; rintro e w6 ⟨rfl, rfl⟩) | (go_at_call 128; refine (term_c _ R r2 m false hr5 qB (hV.grown hg45 hne7) hR).mono ?_; rintro e w7 ⟨hg7, hp7⟩; rw [hy] at hp7; obtain ⟨a7, n7, c7, rfl, hP7, hr7⟩ := hp7; have hP8 := hP.out.butR ((hg4.trans hg5).trans hg7) (fun k hk => by cases hk; exact hRlt); have e7 := hP7.len; have e8 := hP8.len) | (go_at_call 32; refine (polyAdd_c _ _ a n c p hP8 q1 K q2 _ a7 n7 c7 l' hP7 g1 (1 + (r2.length - r'.length)) g2 qB qB qB).mono ?_; rintro e w9 ⟨a9, n9, c9, rfl, hP9, hb9⟩))
       exact qCi
     ·have h1 : headIs (b :: r2) 45 = false := by simpa [headIs] using fun e : (b.toNat : Int) = 45 => h45 (UInt8.toNat_inj.1 (by show b.toNat = 45; omega))
      have h2 : headIs (b :: r2) 43 = false := by simpa [headIs] using fun e : (b.toNat : Int) = 43 => h43 (UInt8.toNat_inj.1 (by show b.toNat = 43; omega))
      have hz : rdSum L = none := by rw [hX.out, rdMore]; simp [h45, h43]
      go_wp2_with fail
      refine (rdTakes_c wr R (b :: r2) m 45 hr.out qB qB qB).mono ?_
      rintro e w4 ⟨rfl, hr4, hg4⟩
      rw [h1] at hr4 ⊢
      simp only [Bool.false_eq_true, if_false] at hr4
      go_wp2_with (first | (go_at_call 129; refine (rdTakes_c w4 R (b :: r2) m 43 hr4 qB qB qB).mono ?_; rintro e w5 ⟨rfl, hr5, hg5⟩; rw [h2]) | (go_at_call 130; refine (must_no _).mono ?_; rintro e w6 ⟨rfl, rfl⟩))
      refine ⟨rfl, ?_⟩
      rw [hz]
      exact SumPost.no ((hg.out.trans hg4).trans hg5)
end Go.Proofs.YtdamegaedmckbaaGreatDoor
end
section
namespace Go.Proofs.YtdamegaedmckbaaGreatDoor
open Go.RowKit
theorem catch_idle (p q : Addr) (w : World) :
  CallsD Tryz.prog 46 #[.pointer (some p), .pointer (some q)] .returning w fun e u' w' => e = .returned (.tuple #[]) ∧ u' = .returning ∧ w' = w := by
 have hnil : ∀ w : World, (binOp BinOp.neq 20 .nilIface .nilIface).run Tryz.prog w = .ok (.bool false) w := fun _ => by kernel_rfl
 refine callsD_of_wpS Tryz.func46 rfl fun c₀ cs hu => ?_
 simp only [Tryz.ntmps46, List.size_toArray, List.length_cons, List.length_nil, Nat.reduceAdd, Nat.reduceSub, Array.replicate_succ, Array.replicate_zero, List.push_toArray, List.append_toArray, List.nil_append, List.cons_append]
 apply wpS_seq
 apply wpS_region
 simp [wpOpsS, go_sem, recoverD, hu, Exit.thenS]
 apply wpS_seq
 apply wpS_region
 simp [wpOpsS, go_sem, Exit.thenS, hnil]
 refine wpS_cond (t := false) (by simp [Act.eval, Array.replicate]) ?_
 refine wpS_of_wp ?_
 go_wp2_with fail
 cases c₀
 simp_all [bodyPostS, results, Tryz.results46, Exit.thenS]
theorem below_of_grown {w w' : World} {B R : Nat} (h : w.grownBy w' (some R)) (hR : B ≤ R) (hB : B ≤ w.heap.size) : Below B w w' := ⟨h.os, h.tape, h.output, h.size, fun k hk => h.block k qB qM⟩
theorem catch_noSum (b c : Nat) (w : World) (v1 v2 : Value) (h1 : w.cell? ⟨b, 0, none⟩ = some v1) (h2 : w.cell? ⟨c, 0, none⟩ = some v2) (f1 : w.frozen? ⟨b, 0, none⟩ = false) (f2 : w.frozen? ⟨c, 0, none⟩ = false) (hne : b ≠ c) :
  CallsD Tryz.prog 46 #[.pointer (some ⟨b, 0, none⟩), .pointer (some ⟨c, 0, none⟩)] (.panicking noSum) w fun e u' w' => e = .returned (.tuple #[]) ∧ u' = .panicking [{ v := .iface 88 (.agg #[]), recovered := true }] ∧ w' = (w.setCell ⟨b, 0, none⟩ (.slice none 0 0)).setCell ⟨c, 0, none⟩ (.int .i64 4) := by
 have hta : ∀ w : World, (Instr.typeAssert (.iface 88 (.agg #[])) 20 88 false).run Tryz.prog w = .ok (.agg #[]) w := fun _ => by kernel_rfl
 have hnil : ∀ w : World, (binOp BinOp.neq 20 (.iface 88 (.agg #[])) .nilIface).run Tryz.prog w = .ok (.bool true) w := fun _ => by kernel_rfl
 refine callsD_of_wpS Tryz.func46 rfl fun c₀ cs hu => ?_
 simp only [Tryz.ntmps46, List.size_toArray, List.length_cons, List.length_nil, Nat.reduceAdd, Nat.reduceSub, Array.replicate_succ, Array.replicate_zero, List.push_toArray, List.append_toArray, List.nil_append, List.cons_append]
 apply wpS_seq
 apply wpS_region
 simp [wpOpsS, go_sem, recoverD, hu, Exit.thenS]
 apply wpS_seq
 apply wpS_region
 simp [wpOpsS, go_sem, Exit.thenS, hnil]
 refine wpS_cond (t := true) (by simp [Act.eval, Array.replicate]) ?_
 refine wpS_of_wp ?_
 go_wp2_with fail
 cases c₀
 simp_all [bodyPostS, results, Tryz.results46, Exit.thenS]
theorem parse_c (w : World) (L : List UInt8) (hL : L.length < 1000000000) (hV : ErrV w) (h7 : 7 < w.heap.size) :
  Calls Tryz.prog 17 #[.string ⟨L.toArray⟩] w fun e w' => ∃ a n c, e = .returned (.tuple #[.slice a n c, .int .i64 (rdText L).2]) ∧ PolyAt w' w.heap.size a n c (rdText L).1 ∧ Below w.heap.size w w' := by
 go_enter_defers Tryz.func17, Tryz.ntmps17
 by_cases h65 : 65536 < L.length
 ·have h65' : ¬ ((L.length : Int) ≤ 65536) := by omega
  have hz : rdText L = ([], 3) := by unfold rdText; rw [if_pos h65]
  rw [hz]
  go_wp2_with fail
  simp [bodyPostD, Leaves, settle, results, Tryz.results17, go_sem]
  exact ⟨none, 0, 0, ⟨rfl, rfl, rfl⟩, PolyAt.nil _ _, by go_grown⟩
 ·have h65' : (L.length : Int) ≤ 65536 := by omega
  obtain ⟨W0, hW0⟩ : ∃ W0, W0 = (((w.alloc (Obj.cells #[Value.slice none 0 0] 23)).alloc (Obj.cells #[Value.int IntKind.i64 0] 29)).alloc (Obj.cells #[Value.string { data := L.toArray }, Value.bool false] 91)) := ⟨_, rfl⟩
  have hr0 : RdrAt W0 (w.heap.size + 1 + 1) L false := by rw [hW0]; exact ⟨by simp [go_sem], by simp [go_sem], by simp [go_sem], by simp [go_sem]⟩
  have hb0 : Below w.heap.size w W0 := by rw [hW0]; go_grown
  have hV0 : ErrV W0 := hV.grown (grown_below hb0 none) qH
  have p0 : W0.cell? ⟨w.heap.size, 0, none⟩ = some (.slice none 0 0) := by rw [hW0]; simp [go_sem]
  have p1 : W0.cell? ⟨w.heap.size + 1, 0, none⟩ = some (.int .i64 0) := by rw [hW0]; simp [go_sem]
  have q0 : W0.frozen? ⟨w.heap.size, 0, none⟩ = false := by rw [hW0]; simp [go_sem]
  have q1 : W0.frozen? ⟨w.heap.size + 1, 0, none⟩ = false := by rw [hW0]; simp [go_sem]
  have hz0 : w.heap.size + 3 ≤ W0.heap.size := by rw [hW0]; simp
  have hrs := readSum_c W0 (w.heap.size + 1 + 1) L hr0 qB hV0 qB
  cases hx : rdSum L with
  | none =>
   have hz : rdText L = ([], 4) := by unfold rdText; rw [if_neg h65, hx]
   rw [hz]
   go_wp2_with fail
   rw [← hW0]
   refine hrs.mono ?_
   rintro e w1 ⟨hg, hp⟩
   rw [hx] at hp
   subst hp
   have c0 := hg.cell p0 qM
   have c1 := hg.cell p1 qH
   have d0 : w1.frozen? ⟨w.heap.size, 0, none⟩ = false := (grown_frozen hg qB qM).trans q0
   have d1 : w1.frozen? ⟨w.heap.size + 1, 0, none⟩ = false := (grown_frozen hg qB qH).trans q1
   refine leaves_cons (f := 46) (args := #[.pointer (some ⟨w.heap.size, 0, none⟩), .pointer (some ⟨w.heap.size + 1, 0, none⟩)]) qH qJ ?_
   refine (catch_noSum _ _ w1 _ _ c0 c1 d0 d1 qB).mono ?_
   rintro e u' w2 ⟨rfl, rfl, rfl⟩
   simp [c0, c1, Leaves, settle, results, Tryz.results17, go_sem]
   exact ⟨none, 0, 0, ⟨rfl, rfl, rfl⟩, PolyAt.nil _ _, ((hb0.trans (below_of_grown hg qB qB)).trans (below_of_grown (grown_set _ (grown_refl _ _)) (Nat.le_refl _) (by have := hg.size; omega))).trans (below_of_grown (R := w.heap.size + 1) (grown_set _ (grown_refl _ _)) qB (by have := hg.size; simp; omega))⟩
  | some x =>
   obtain ⟨l, m⟩ := x
   cases m
   ·have hz : rdText L = (l, 0) := by unfold rdText; rw [if_neg h65, hx]; rfl
    rw [hz]
    go_wp2_with fail
    rw [← hW0]
    refine hrs.mono ?_
    rintro e w1 ⟨hg, hp⟩
    rw [hx] at hp
    obtain ⟨a, n, c, rfl, hP, hr⟩ := hp
    have c0 := hg.cell p0 qM
    have c1 := hg.cell p1 qH
    have d0 : w1.frozen? ⟨w.heap.size, 0, none⟩ = false := (grown_frozen hg qB qM).trans q0
    have d1 : w1.frozen? ⟨w.heap.size + 1, 0, none⟩ = false := (grown_frozen hg qB qH).trans q1
    have t1 := hr.c1
    go_wp2_with fail
    refine leaves_cons (f := 46) (args := #[.pointer (some ⟨w.heap.size, 0, none⟩), .pointer (some ⟨w.heap.size + 1, 0, none⟩)]) qH qJ ?_
    refine (catch_idle _ _ _).mono ?_
    rintro e u' w2 ⟨rfl, rfl, rfl⟩
    simp [c0, c1, Leaves, settle, results, Tryz.results17, go_sem]
    have hzz := hg.size
    have gA := grown_set (R := w.heap.size) (o := 0) (.slice a n c) (grown_set (R := w.heap.size) (o := 0) (.slice a n c) (grown_refl w1 (some w.heap.size)))
    have gB := grown_set (R := w.heap.size + 1) (o := 0) (.int .i64 0) (grown_refl ((w1.setCell ⟨w.heap.size, 0, none⟩ (.slice a n c)).setCell ⟨w.heap.size, 0, none⟩ (.slice a n c)) (some (w.heap.size + 1)))
    exact ⟨a, n, c, ⟨rfl, rfl, rfl⟩, ((hP.butR gA (fun k hk => by cases hk; omega)).butR gB (fun k hk => by cases hk; omega)).mono hb0.size, ((hb0.trans (below_of_grown hg qB qB)).trans (below_of_grown gA (Nat.le_refl _) qB)).trans (below_of_grown (R := w.heap.size + 1) gB qB qM)⟩
   ·have hz : rdText L = ([], 3) := by unfold rdText; rw [if_neg h65, hx]; rfl
    rw [hz]
    go_wp2_with fail
    rw [← hW0]
    refine hrs.mono ?_
    rintro e w1 ⟨hg, hp⟩
    rw [hx] at hp
    obtain ⟨a, n, c, rfl, hP, hr⟩ := hp
    have c0 := hg.cell p0 qM
    have c1 := hg.cell p1 qH
    have d0 : w1.frozen? ⟨w.heap.size, 0, none⟩ = false := (grown_frozen hg qB qM).trans q0
    have d1 : w1.frozen? ⟨w.heap.size + 1, 0, none⟩ = false := (grown_frozen hg qB qH).trans q1
    have t1 := hr.c1
    go_wp2_with fail
    refine leaves_cons (f := 46) (args := #[.pointer (some ⟨w.heap.size, 0, none⟩), .pointer (some ⟨w.heap.size + 1, 0, none⟩)]) qH qJ ?_
    refine (catch_idle _ _ _).mono ?_
    rintro e u' w2 ⟨rfl, rfl, rfl⟩
    simp [c0, c1, Leaves, settle, results, Tryz.results17, go_sem]
    have hzz := hg.size
    have gA := grown_set (R := w.heap.size) (o := 0) (.slice none 0 0) (grown_set (R := w.heap.size) (o := 0) (.slice a n c) (grown_refl w1 (some w.heap.size)))
    have gB := grown_set (R := w.heap.size + 1) (o := 0) (.int .i64 3) (grown_refl ((w1.setCell ⟨w.heap.size, 0, none⟩ (.slice a n c)).setCell ⟨w.heap.size, 0, none⟩ (.slice none 0 0)) (some (w.heap.size + 1)))
    exact ⟨none, 0, 0, ⟨rfl, rfl, rfl⟩, PolyAt.nil _ _, ((hb0.trans (below_of_grown hg qB qB)).trans (below_of_grown gA (Nat.le_refl _) qB)).trans (below_of_grown (R := w.heap.size + 1) gB qB qM)⟩
end Go.Proofs.YtdamegaedmckbaaGreatDoor
end
section
namespace Go.Proofs.YtdamegaedmckbaaGreatDoor
open Go.RowKit
theorem docTerm_c (wo : World) (R : Nat) (L : List UInt8) (k : Nat) (m0 neg : Bool) (h : DocAt wo R L k 0 m0) (hL : L.length ≤ 100000) :
  Calls Tryz.prog 50 #[.pointer (some ⟨R, 0, none⟩), .bool neg] wo (DTermPost wo R L k m0 neg) := by
 cases neg
 ·exact docTerm_pos wo R L k m0 h hL
 ·exact docTerm_neg wo R L k m0 h hL
theorem docParse_c (w : World) (L : List UInt8) (hL : L.length < 1000000000) :
  Calls Tryz.prog 18 #[.string ⟨L.toArray⟩] w fun e w' => ∃ a n c, e = .returned (.tuple #[.slice a n c, .int .i64 (rdText L).2]) ∧ PolyAt w' w.heap.size a n c (rdText L).1 ∧ Below w.heap.size w w' := by
 go_enter Tryz.func18, Tryz.ntmps18
 by_cases h65 : 65536 < L.length
 ·have h65' : ¬ ((L.length : Int) ≤ 65536) := by omega
  have hz : rdText L = ([], 3) := by unfold rdText; rw [if_pos h65]
  rw [hz]
  go_wp2_with fail
  exact bodyPost_ret (v := .tuple #[.slice none 0 0, .int .i64 3]) (by simp [results, Tryz.results18, go_sem]) rfl ⟨none, 0, 0, rfl, PolyAt.nil _ _, Below.refl _ _⟩
 ·have h65' : (L.length : Int) ≤ 65536 := by omega
  have h65n : ¬ 65536 < L.length := h65
  go_wp2_with fail
  obtain ⟨R, hR⟩ : ∃ R, R = w.heap.size := ⟨_, rfl⟩
  refine calls_name ?_
  intro W0 hW0
  have D0 : DocAt W0 w.heap.size L 0 0 false := by rw [hW0]; exact ⟨by simp [go_sem], by simp [go_sem], by simp [go_sem], by simp [go_sem], by simp [go_sem], by simp [go_sem], by simp [go_sem], Nat.zero_le _⟩
  have B0 : Below w.heap.size w W0 := by rw [hW0]; go_grown
  have z0 : R < W0.heap.size := by rw [hR]; exact D0.lt
  clear hW0
  rw [← hR] at D0 B0
  rw [← hR]
  have HRw := Lib.hid hR
  clear hR
  refine (rBlanks_48 W0 R L 0 D0.le D0.c0 D0.c1 D0.f1 hL).mono ?_
  rintro e w1 ⟨rfl, k1, hk1, hdk1, hc1, hB1⟩
  have D1 := D0.but hB1 hc1 hk1
  have B1 : Below R w w1 := B0.trans hB1.below
  have HK1 : Hid (L.drop k1 = skp L) := Lib.hid (by rw [hdk1, List.drop_zero]; rfl)
  clear D0 B0 hB1 hc1 hdk1
  go_wp2_with fail
  refine (rIs_49 w1 R L k1 hk1 45 D1.c0 D1.c1 hL).mono ?_
  rintro e w2 ⟨rfl, n2, hw2⟩
  have D2 : DocAt w2 R L k1 0 false := by rw [hw2]; exact D1.drewN n2
  have B2 : Below R w w2 := by rw [hw2]; exact below_drewN n2 B1
  clear hw2 D1 B1
  cases h45 : headIs (L.drop k1) 45
  ·go_wp2_with fail
   refine (docTerm_c w2 R L k1 false false D2 qB).mono ?_
   rintro e w4 ⟨a4, n4, c4, k4, e4, m4, l4, rfl, hg4, D4, P4, hr4⟩
   replace P4 := P4.mono (B' := R + 1) (by have := D2.lt; omega)
   have B4 : Below R w w4 := B2.trans (below_of_grown hg4 (Nat.le_refl _) (by have := D2.lt; omega))
   have HS : Hid (SRelE L (rdSum L) k4 e4 m4 l4) := Lib.hid (by rw [rdSum_at L k1 k1 HK1.out (by rw [h45]; rfl), h45]; exact SRelE.start qB hk1 hr4 D4.le)
   clear D2 B2 hg4 hr4 h45 HK1
   exact qAi
  ·have hlt := head_lt h45
   have y1 := D2.c1
   have z1 := D2.f1
   go_wp2_with fail
   have D3 := D2.set1 (k1 + 1) hlt
   have hg3 := grown_set (o := 1) (.int .i64 ((k1 + 1 : Nat) : Int)) (grown_refl w2 (some R))
   have B3 := B2.trans (below_of_grown hg3 (Nat.le_refl _) (by have := D2.lt; omega))
   rw [show ((k1 + 1 : Nat) : Int) = (k1 : Int) + 1 from rfl] at D3 B3
   clear D2 B2 y1 z1 hg3
   generalize w2.setCell ⟨R, 1, none⟩ (.int .i64 ((k1 : Int) + 1)) = w3 at *
   refine (docTerm_c w3 R L (k1 + 1) false true D3 qB).mono ?_
   rintro e w4 ⟨a4, n4, c4, k4, e4, m4, l4, rfl, hg4, D4, P4, hr4⟩
   replace P4 := P4.mono (B' := R + 1) (by have := D3.lt; omega)
   have B4 : Below R w w4 := B3.trans (below_of_grown hg4 (Nat.le_refl _) (by have := D3.lt; omega))
   have HS : Hid (SRelE L (rdSum L) k4 e4 m4 l4) := Lib.hid (by rw [rdSum_at L k1 (k1 + 1) HK1.out (by rw [h45]; rfl), h45]; exact SRelE.start qB hlt hr4 D4.le)
   clear D3 B3 hg4 hr4 h45 HK1
   exact qAi
end Go.Proofs.YtdamegaedmckbaaGreatDoor
end
