/- The reader of the shipped package: sum. -/
import Derived.Test.YtdamegaedmckbaaGreatDoorQP40
set_option linter.unusedSimpArgs false
set_option linter.unusedVariables false
set_option maxRecDepth 100000
set_option maxHeartbeats 4000000
section
namespace Go.Proofs.YtdamegaedmckbaaGreatDoor
open Go.RowKit
def Ik (w : World) (R : Nat) (x : Option (List PT × Bool)) (e : Ending) (w' : World) : Prop :=
 w.grownBy w' (some R) ∧ match x with | none => e = .panicked Iu | some (l, m) => ∃ a n c, e = .returned (.slice a n c) ∧ Bk w' w.heap.size a n c l ∧ Cb w' w.heap.size a n c ∧ By w' R [] m
theorem Ik.no {w w' : World} {R : Nat} (h : w.grownBy w' (some R)) : Ik w R none (.panicked Iu) w' := ⟨h, rfl⟩
theorem Xx (wo : World) (R : Nat) (L : List UInt8) (h : By wo R L false) (hL : L.length < 65537) (hV : Kr wo) (hR : 7 < R) :
  Calls Tryz.prog 47 #[.pointer (some ⟨R, 0, none⟩)] wo (Ik wo R (E4 L)) := by
 have hRlt := h.lt
 have hne7 : some 7 ≠ some R := by simp; omega
 have hsk := Ef L
 go_enter Tryz.func47, Tryz.ntmps47
 go_wp2_with (first | (go_at_call 127; refine (Lv _ R L false h qB).mono ?_; rintro e w1 ⟨rfl, hr1, hg1⟩))
 refine (De w1 R (skp L) false 45 hr1 qB qB qB).mono ?_
 rintro e w2 ⟨rfl, hr2, hg2⟩
 obtain ⟨L1, hL1⟩ : ∃ L1, L1 = (if A6 (skp L) 45 then (skp L).tail else skp L) := ⟨_, rfl⟩
 have hl1 : L1.length ≤ L.length := by
  rw [hL1]; split
  ·simp; omega
  ·exact hsk
 obtain ⟨ng, hng⟩ : ∃ ng, ng = A6 (skp L) 45 := ⟨_, rfl⟩
 have hTR : Hid (E4 L = match Bu L1 false ng with | none => none | some (l, r, m) => Dg l r m) := Ae (by rw [hL1, hng]; rfl)
 rw [← hL1] at hr2
 rw [← hng]
 clear hL1 hng hr1
 have hg12 := hg1.trans hg2
 have hV2 : Kr w2 := hV.grown hg12 hne7
 clear hg1 hg2
 cases hx : Bu L1 false ng with
 | none =>
  go_wp2_with fail
  refine (L8 w2 R L1 false ng hr2 qB hV2 hR).mono ?_
  rintro e w3 ⟨hg3, hp3⟩
  rw [hx] at hp3
  subst hp3
  have hz : E4 L = none := by rw [hTR.out, hx]
  refine ⟨rfl, ?_⟩
  rw [hz]
  exact Ik.no (hg12.trans hg3)
 | some x =>
  obtain ⟨l, r, m⟩ := x
  go_wp2_with (first | (go_at_call 128; refine (L8 w2 R L1 false ng hr2 qB hV2 hR).mono ?_; rintro e w3 ⟨hg3, hp3⟩; rw [hx] at hp3; obtain ⟨a1, n1, c1, rfl, hP3, hO3, hr3⟩ := hp3))
  obtain ⟨g1, g2, g3⟩ := Ea hx
  have g4 := Ee hx
  have hX0 := Ae (show E4 L = Dg l r m by rw [hTR.out, hx])
  have hP0 := Ae (And.intro (hP3.mono hg12.size) (hO3.mono hg12.size))
  have hr0 := Ae hr3
  have hg0 := Ae (hg12.trans hg3)
  have hQ0 := Ae (show PW l ∧ Da (1 + (L1.length - r.length)) l ∧ (1 + (L1.length - r.length)) + 3 * r.length ≤ 300000 ∧ l.length + r.length ≤ 100000 from ⟨g1, g2, by omega, by omega⟩)
  clear hP3 hr3 hg3 hg12 hTR hx hr2 hV2 g1 g2 g3
  go_loopw [2] (fun v2 wr => ∃ (a : Option Addr) (n c : Nat) (p : List PT) (L2 : List UInt8) (m : Bool) (K : Nat), v2 = .slice a n c ∧ Hid (E4 L = Dg p L2 m) ∧ Hid (Bk wr wo.heap.size a n c p ∧ Cb wr wo.heap.size a n c) ∧ Hid (PW p ∧ Da K p ∧ K + 3 * L2.length ≤ 300000 ∧ p.length + L2.length ≤ 100000) ∧ Hid (By wr R L2 m) ∧ Hid (wo.grownBy wr (some R))) (fun _ wr => M5 wr R)
  case atStart => exact ⟨a1, n1, c1, l, r, m, _, rfl, hX0, hP0, hQ0, hr0, hg0⟩
  case round =>
   clear hX0 hP0 hQ0 hr0 hg0
   obtain ⟨a, n, c, p, L2, m, K, rfl, hX, hP, hQ, hr, hg⟩ := hrel
   have hVr : Kr wr := hV.grown hg.out hne7
   have t0 := hr.out.c0
   cases L2 with
   | nil =>
    go_wp2_with fail
    have hz : E4 L = some (p, m) := by rw [hX.out, Dg]
    rw [hz]
    go_ret
    exact ⟨hg.out, a, n, c, rfl, hP.out.1, hP.out.2, hr.out⟩
   | cons b r2 =>
    have hlc : (b :: r2).length ≤ 100000 := by have := hQ.out; omega
    have hl2 : r2.length < 100000 := by have := hlc; simp only [List.length_cons] at this; omega
    have hm0 := Ae (El hr.out)
    by_cases h45 : b = 45
    ·subst h45
     have hX1 : Hid (E4 L = match Bu r2 m true with | none => none | some (l', r', m') => Dg (Bt p l') r' m') := Ae (by rw [hX.out, Dg]; simp; split <;> simp_all)
     clear hX
     cases hy : Bu r2 m true with
     | none =>
      have hz : E4 L = none := by rw [hX1.out, hy]
      go_wp2_with fail
      refine (De wr R (45 :: r2) m 45 hr.out qB qB qB).mono ?_
      rintro e w4 ⟨rfl, hr4, hg4⟩
      rw [show A6 (45 :: r2) 45 = true by simp [A6]] at hr4 ⊢
      simp only [if_true, List.tail_cons] at hr4
      have hg45 := hg.out.trans hg4
      have hr5 := hr4
      go_wp2_with (first | (go_at_call 130; refine (Di _).mono ?_; rintro e w6 ⟨rfl, rfl⟩) | (go_at_call 128; refine (L8 _ R r2 m true hr5 qB (hV.grown hg45 hne7) hR).mono ?_; rintro e w7 ⟨hg7, hp7⟩; rw [hy] at hp7; subst hp7))
      refine ⟨rfl, ?_⟩
      rw [hz]
      exact Ik.no (hg45.trans hg7)
     | some x =>
      obtain ⟨l', r', m'⟩ := x
      have hX2 := Ae (show E4 L = Dg (Bt p l') r' m' by rw [hX1.out, hy])
      obtain ⟨g1, g2, g3⟩ := Ea hy
      have g4 := Ee hy
      obtain ⟨q1, q2, q3, q4⟩ := hQ.out
      have q5 := Hy p l'
      simp only [List.length_cons] at q3 q4
      have hQ2 := Ae (show PW (Bt p l') ∧ Da (K + (1 + (r2.length - r'.length)) + 1) (Bt p l') ∧ (K + (1 + (r2.length - r'.length)) + 1) + 3 * r'.length ≤ 300000 ∧ (Bt p l').length + r'.length ≤ 100000 from ⟨q1.add g1, Da.add p l' q1.good g1.good q2 g2, by omega, by omega⟩)
      clear hX1
      go_wp2_with fail
      refine (De wr R (45 :: r2) m 45 hr.out qB qB qB).mono ?_
      rintro e w4 ⟨rfl, hr4, hg4⟩
      rw [show A6 (45 :: r2) 45 = true by simp [A6]] at hr4 ⊢
      simp only [if_true, List.tail_cons] at hr4
      have hg45 := hg.out.trans hg4
      have hr5 := hr4
      go_wp2_with (first | (go_at_call 130; refine (Di _).mono ?_; rintro e w6 ⟨rfl, rfl⟩) | (go_at_call 128; refine (L8 _ R r2 m true hr5 qB (hV.grown hg45 hne7) hR).mono ?_; rintro e w7 ⟨hg7, hp7⟩; rw [hy] at hp7; obtain ⟨a7, n7, c7, rfl, hP7, _, hr7⟩ := hp7; have hP8 := hP.out.1.butR (hg4.trans hg7) (fun k hk => by cases hk; exact hRlt); have e7 := hP7.len; have e8 := hP8.len) | (go_at_call 32; refine (Ps _ _ a n c p hP8 q1 K q2 _ a7 n7 c7 l' hP7 g1 (1 + (r2.length - r'.length)) g2 qB qB qB).mono ?_; rintro e w9 ⟨a9, n9, c9, rfl, hP9, hO9, hb9⟩))
      exact qCh
    ·by_cases h43 : b = 43
     ·subst h43
      have hX1 : Hid (E4 L = match Bu r2 m false with | none => none | some (l', r', m') => Dg (Bt p l') r' m') := Ae (by rw [hX.out, Dg]; simp; split <;> simp_all)
      clear hX
      cases hy : Bu r2 m false with
      | none =>
       have hz : E4 L = none := by rw [hX1.out, hy]
       go_wp2_with fail
       refine (De wr R (43 :: r2) m 45 hr.out qB qB qB).mono ?_
       rintro e w4 ⟨rfl, hr4, hg4⟩
       rw [show A6 (43 :: r2) 45 = false by simp [A6]] at hr4 ⊢
       simp only [Bool.false_eq_true, if_false] at hr4
       go_wp2_with (first | (go_at_call 129; refine (De w4 R (43 :: r2) m 43 hr4 qB qB qB).mono ?_; rintro e w5 ⟨rfl, hr5, hg5⟩; rw [show A6 (43 :: r2) 43 = true by simp [A6]] at hr5 ⊢; simp only [if_true, List.tail_cons] at hr5; have hg45 := (hg.out.trans hg4).trans hg5) | (go_at_call 130; refine (Di _).mono ?_; rintro e w6 ⟨rfl, rfl⟩) | (go_at_call 128; refine (L8 _ R r2 m false hr5 qB (hV.grown hg45 hne7) hR).mono ?_; rintro e w7 ⟨hg7, hp7⟩; rw [hy] at hp7; subst hp7))
       refine ⟨rfl, ?_⟩
       rw [hz]
       exact Ik.no (hg45.trans hg7)
      | some x =>
       obtain ⟨l', r', m'⟩ := x
       have hX2 := Ae (show E4 L = Dg (Bt p l') r' m' by rw [hX1.out, hy])
       obtain ⟨g1, g2, g3⟩ := Ea hy
       have g4 := Ee hy
       obtain ⟨q1, q2, q3, q4⟩ := hQ.out
       have q5 := Hy p l'
       simp only [List.length_cons] at q3 q4
       have hQ2 := Ae (show PW (Bt p l') ∧ Da (K + (1 + (r2.length - r'.length)) + 1) (Bt p l') ∧ (K + (1 + (r2.length - r'.length)) + 1) + 3 * r'.length ≤ 300000 ∧ (Bt p l').length + r'.length ≤ 100000 from ⟨q1.add g1, Da.add p l' q1.good g1.good q2 g2, by omega, by omega⟩)
       clear hX1
       go_wp2_with fail
       refine (De wr R (43 :: r2) m 45 hr.out qB qB qB).mono ?_
       rintro e w4 ⟨rfl, hr4, hg4⟩
       rw [show A6 (43 :: r2) 45 = false by simp [A6]] at hr4 ⊢
       simp only [Bool.false_eq_true, if_false] at hr4
       go_wp2_with (first | (go_at_call 129; refine (De w4 R (43 :: r2) m 43 hr4 qB qB qB).mono ?_; rintro e w5 ⟨rfl, hr5, hg5⟩; rw [show A6 (43 :: r2) 43 = true by simp [A6]] at hr5 ⊢; simp only [if_true, List.tail_cons] at hr5; have hg45 := (hg.out.trans hg4).trans hg5) | (go_at_call 130; refine (Di _).mono ?_; rintro e w6 ⟨rfl, rfl⟩) | (go_at_call 128; refine (L8 _ R r2 m false hr5 qB (hV.grown hg45 hne7) hR).mono ?_; rintro e w7 ⟨hg7, hp7⟩; rw [hy] at hp7; obtain ⟨a7, n7, c7, rfl, hP7, _, hr7⟩ := hp7; have hP8 := hP.out.1.butR ((hg4.trans hg5).trans hg7) (fun k hk => by cases hk; exact hRlt); have e7 := hP7.len; have e8 := hP8.len) | (go_at_call 32; refine (Ps _ _ a n c p hP8 q1 K q2 _ a7 n7 c7 l' hP7 g1 (1 + (r2.length - r'.length)) g2 qB qB qB).mono ?_; rintro e w9 ⟨a9, n9, c9, rfl, hP9, hO9, hb9⟩))
       exact qCh
     ·have h1 : A6 (b :: r2) 45 = false := by simpa [A6] using fun e : (b.toNat : Int) = 45 => h45 (UInt8.toNat_inj.1 (by show b.toNat = 45; omega))
      have h2 : A6 (b :: r2) 43 = false := by simpa [A6] using fun e : (b.toNat : Int) = 43 => h43 (UInt8.toNat_inj.1 (by show b.toNat = 43; omega))
      have hz : E4 L = none := by rw [hX.out, Dg]; simp [h45, h43]
      go_wp2_with fail
      refine (De wr R (b :: r2) m 45 hr.out qB qB qB).mono ?_
      rintro e w4 ⟨rfl, hr4, hg4⟩
      rw [h1] at hr4 ⊢
      simp only [Bool.false_eq_true, if_false] at hr4
      go_wp2_with (first | (go_at_call 129; refine (De w4 R (b :: r2) m 43 hr4 qB qB qB).mono ?_; rintro e w5 ⟨rfl, hr5, hg5⟩; rw [h2]) | (go_at_call 130; refine (K5 _).mono ?_; rintro e w6 ⟨rfl, rfl⟩))
      refine ⟨rfl, ?_⟩
      rw [hz]
      exact Ik.no ((hg.out.trans hg4).trans hg5)
theorem N9 (p q : Addr) (w : World) :
  CallsD Tryz.prog 46 #[.pointer (some p), .pointer (some q)] .returning w fun e u' w' => e = .returned (.tuple #[]) ∧ u' = .returning ∧ w' = w := by
 have hnil : ∀ w : World, (binOp BinOp.neq 20 .nilIface .nilIface).run Tryz.prog w = .ok (.bool false) w := fun _ => by kernel_rfl
 refine callsD_of_wpS Tryz.func46 rfl fun c₀ cs hu => ?_
 simp only [Tryz.ntmps46, List.size_toArray, List.length_cons, List.length_nil, Nat.reduceAdd, Nat.reduceSub, Array.replicate_succ, Array.replicate_zero, List.push_toArray, List.append_toArray, List.nil_append, List.cons_append]
 apply wpS_seq
 apply wpS_region
 simp [wpOpsS, go_sem, recoverD, hu, Exit.thenS]
 apply wpS_seq
 apply wpS_region
 simp [wpOpsS, go_sem, Exit.thenS, hnil]
 refine wpS_cond (t := false) (by simp [Act.eval, Array.replicate]) ?_
 exact qEo
theorem Bq {w w' : World} {B R : Nat} (h : w.grownBy w' (some R)) (hR : B ≤ R) (hB : B ≤ w.heap.size) : Below B w w' := ⟨h.os, h.tape, h.output, h.size, fun k hk => h.block k qB qL⟩
theorem Sx (b c : Nat) (w : World) (v1 v2 : Value) (h1 : w.cell? ⟨b, 0, none⟩ = some v1) (h2 : w.cell? ⟨c, 0, none⟩ = some v2) (f1 : w.frozen? ⟨b, 0, none⟩ = false) (f2 : w.frozen? ⟨c, 0, none⟩ = false) (hne : b ≠ c) :
  CallsD Tryz.prog 46 #[.pointer (some ⟨b, 0, none⟩), .pointer (some ⟨c, 0, none⟩)] (.panicking Iu) w fun e u' w' => e = .returned (.tuple #[]) ∧ u' = .panicking [{ v := .iface 88 (.agg #[]), recovered := true }] ∧ w' = (w.setCell ⟨b, 0, none⟩ (.slice none 0 0)).setCell ⟨c, 0, none⟩ (.int .i64 4) := by
 have hta : ∀ w : World, (Instr.typeAssert (.iface 88 (.agg #[])) 20 88 false).run Tryz.prog w = .ok (.agg #[]) w := fun _ => by kernel_rfl
 have hnil : ∀ w : World, (binOp BinOp.neq 20 (.iface 88 (.agg #[])) .nilIface).run Tryz.prog w = .ok (.bool true) w := fun _ => by kernel_rfl
 refine callsD_of_wpS Tryz.func46 rfl fun c₀ cs hu => ?_
 simp only [Tryz.ntmps46, List.size_toArray, List.length_cons, List.length_nil, Nat.reduceAdd, Nat.reduceSub, Array.replicate_succ, Array.replicate_zero, List.push_toArray, List.append_toArray, List.nil_append, List.cons_append]
 apply wpS_seq
 apply wpS_region
 simp [wpOpsS, go_sem, recoverD, hu, Exit.thenS]
 apply wpS_seq
 apply wpS_region
 simp [wpOpsS, go_sem, Exit.thenS, hnil]
 refine wpS_cond (t := true) (by simp [Act.eval, Array.replicate]) ?_
 exact qEo
theorem V2 (w : World) (L : List UInt8) (hL : L.length < 1000000000) (hV : Kr w) (h7 : 7 < w.heap.size) :
  Calls Tryz.prog 17 #[.string ⟨L.toArray⟩] w fun e w' => ∃ a n c, e = .returned (.tuple #[.slice a n c, .int .i64 (Cs L).2]) ∧ Bk w' w.heap.size a n c (Cs L).1 ∧ Cb w' w.heap.size a n c ∧ Below w.heap.size w w' := by
 go_enter_defers Tryz.func17, Tryz.ntmps17
 by_cases h65 : 65536 < L.length
 ·have h65' : ¬ ((L.length : Int) ≤ 65536) := by omega
  have hz : Cs L = ([], 3) := by unfold Cs; rw [if_pos h65]
  rw [hz]
  go_wp2_with fail
  simp [bodyPostD, Leaves, settle, results, Tryz.results17, go_sem]
  exact ⟨none, 0, 0, ⟨rfl, rfl, rfl⟩, Bk.nil _ _, Cb.nil _ _, by go_grown⟩
 ·have h65' : (L.length : Int) ≤ 65536 := by omega
  obtain ⟨W0, hW0⟩ : ∃ W0, W0 = (((w.alloc (Obj.cells #[Value.slice none 0 0] 23)).alloc (Obj.cells #[Value.int IntKind.i64 0] 29)).alloc (Obj.cells #[Value.string { data := L.toArray }, Value.bool false] 91)) := ⟨_, rfl⟩
  have hr0 : By W0 (w.heap.size + 1 + 1) L false := by rw [hW0]; exact ⟨by simp [go_sem], by simp [go_sem], by simp [go_sem], by simp [go_sem]⟩
  have hb0 : Below w.heap.size w W0 := by rw [hW0]; go_grown
  have hV0 : Kr W0 := hV.grown (Az hb0 none) qH
  have p0 : W0.cell? ⟨w.heap.size, 0, none⟩ = some (.slice none 0 0) := by rw [hW0]; simp [go_sem]
  have p1 : W0.cell? ⟨w.heap.size + 1, 0, none⟩ = some (.int .i64 0) := by rw [hW0]; simp [go_sem]
  have q0 : W0.frozen? ⟨w.heap.size, 0, none⟩ = false := by rw [hW0]; simp [go_sem]
  have q1 : W0.frozen? ⟨w.heap.size + 1, 0, none⟩ = false := by rw [hW0]; simp [go_sem]
  have hz0 : w.heap.size + 3 ≤ W0.heap.size := by rw [hW0]; simp
  have hrs := Xx W0 (w.heap.size + 1 + 1) L hr0 qB hV0 qB
  cases hx : E4 L with
  | none =>
   have hz : Cs L = ([], 4) := by unfold Cs; rw [if_neg h65, hx]
   rw [hz]
   go_wp2_with fail
   rw [← hW0]
   refine hrs.mono ?_
   rintro e w1 ⟨hg, hp⟩
   rw [hx] at hp
   subst hp
   have c0 := hg.cell p0 qL
   have c1 := hg.cell p1 qH
   have d0 : w1.frozen? ⟨w.heap.size, 0, none⟩ = false := (Bg hg qB qL).trans q0
   have d1 : w1.frozen? ⟨w.heap.size + 1, 0, none⟩ = false := (Bg hg qB qH).trans q1
   refine leaves_cons (f := 46) (args := #[.pointer (some ⟨w.heap.size, 0, none⟩), .pointer (some ⟨w.heap.size + 1, 0, none⟩)]) qH qJ ?_
   refine (Sx _ _ w1 _ _ c0 c1 d0 d1 qB).mono ?_
   rintro e u' w2 ⟨rfl, rfl, rfl⟩
   simp [c0, c1, Leaves, settle, results, Tryz.results17, go_sem]
   exact ⟨none, 0, 0, ⟨rfl, rfl, rfl⟩, Bk.nil _ _, Cb.nil _ _, ((hb0.trans (Bq hg qB qB)).trans (Bq (Aw _ (Bc _ _)) (Ad _) (by have := hg.size; omega))).trans (Bq (R := w.heap.size + 1) (Aw _ (Bc _ _)) qB (by have := hg.size; simp; omega))⟩
  | some x =>
   obtain ⟨l, m⟩ := x
   cases m
   ·have hz : Cs L = (l, 0) := by unfold Cs; rw [if_neg h65, hx]; rfl
    rw [hz]
    go_wp2_with fail
    rw [← hW0]
    refine hrs.mono ?_
    rintro e w1 ⟨hg, hp⟩
    rw [hx] at hp
    obtain ⟨a, n, c, rfl, hP, hO, hr⟩ := hp
    have c0 := hg.cell p0 qL
    have c1 := hg.cell p1 qH
    have d0 : w1.frozen? ⟨w.heap.size, 0, none⟩ = false := (Bg hg qB qL).trans q0
    have d1 : w1.frozen? ⟨w.heap.size + 1, 0, none⟩ = false := (Bg hg qB qH).trans q1
    have t1 := hr.c1
    go_wp2_with fail
    refine leaves_cons (f := 46) (args := #[.pointer (some ⟨w.heap.size, 0, none⟩), .pointer (some ⟨w.heap.size + 1, 0, none⟩)]) qH qJ ?_
    refine (N9 _ _ _).mono ?_
    rintro e u' w2 ⟨rfl, rfl, rfl⟩
    simp [c0, c1, Leaves, settle, results, Tryz.results17, go_sem]
    have hzz := hg.size
    have gA := Aw (R := w.heap.size) (o := 0) (.slice a n c) (Aw (R := w.heap.size) (o := 0) (.slice a n c) (Bc w1 (some w.heap.size)))
    have gB := Aw (R := w.heap.size + 1) (o := 0) (.int .i64 0) (Bc ((w1.setCell ⟨w.heap.size, 0, none⟩ (.slice a n c)).setCell ⟨w.heap.size, 0, none⟩ (.slice a n c)) (some (w.heap.size + 1)))
    exact ⟨a, n, c, ⟨rfl, rfl, rfl⟩, ((hP.butR gA (fun k hk => by cases hk; omega)).butR gB (fun k hk => by cases hk; omega)).mono hb0.size, ((hO.butR gA (fun k hk => by cases hk; omega)).butR gB (fun k hk => by cases hk; omega)).mono hb0.size, ((hb0.trans (Bq hg qB qB)).trans (Bq gA (Ad _) qB)).trans (Bq (R := w.heap.size + 1) gB qB qL)⟩
   ·have hz : Cs L = ([], 3) := by unfold Cs; rw [if_neg h65, hx]; rfl
    rw [hz]
    go_wp2_with fail
    rw [← hW0]
    refine hrs.mono ?_
    rintro e w1 ⟨hg, hp⟩
    rw [hx] at hp
    obtain ⟨a, n, c, rfl, hP, hO, hr⟩ := hp
    have c0 := hg.cell p0 qL
    have c1 := hg.cell p1 qH
    have d0 : w1.frozen? ⟨w.heap.size, 0, none⟩ = false := (Bg hg qB qL).trans q0
    have d1 : w1.frozen? ⟨w.heap.size + 1, 0, none⟩ = false := (Bg hg qB qH).trans q1
    have t1 := hr.c1
    go_wp2_with fail
    refine leaves_cons (f := 46) (args := #[.pointer (some ⟨w.heap.size, 0, none⟩), .pointer (some ⟨w.heap.size + 1, 0, none⟩)]) qH qJ ?_
    refine (N9 _ _ _).mono ?_
    rintro e u' w2 ⟨rfl, rfl, rfl⟩
    simp [c0, c1, Leaves, settle, results, Tryz.results17, go_sem]
    have hzz := hg.size
    have gA := Aw (R := w.heap.size) (o := 0) (.slice none 0 0) (Aw (R := w.heap.size) (o := 0) (.slice a n c) (Bc w1 (some w.heap.size)))
    have gB := Aw (R := w.heap.size + 1) (o := 0) (.int .i64 3) (Bc ((w1.setCell ⟨w.heap.size, 0, none⟩ (.slice a n c)).setCell ⟨w.heap.size, 0, none⟩ (.slice none 0 0)) (some (w.heap.size + 1)))
    exact ⟨none, 0, 0, ⟨rfl, rfl, rfl⟩, Bk.nil _ _, Cb.nil _ _, ((hb0.trans (Bq hg qB qB)).trans (Bq gA (Ad _) qB)).trans (Bq (R := w.heap.size + 1) gB qB qL)⟩
end Go.Proofs.YtdamegaedmckbaaGreatDoor
end
