/- The reader of the shipped package: number, positive. No further condition. Package fracs: Mul, of, Of. No further condition. -/
import Derived.Test.YtdamegaedmckbaaGreatDoorQT25
import Derived.Test.YtdamegaedmckbaaGreatDoorQT22
import Derived.Test.YtdamegaedmckbaaGreatDoorQT9
import Derived.Test.YtdamegaedmckbaaGreatDoorQTZ
set_option linter.unusedSimpArgs false
set_option linter.unusedVariables false
set_option maxRecDepth 100000
set_option maxHeartbeats 4000000
section
namespace Go.Proofs.YtdamegaedmckbaaGreatDoor
open Go.RowKit
theorem take_of_while (p : UInt8 → Bool) (L : List UInt8) : L.take (L.length - (L.dropWhile p).length) = L.takeWhile p ∧ L.drop (L.length - (L.dropWhile p).length) = L.dropWhile p ∧ L.length - (L.dropWhile p).length = (L.takeWhile p).length := by
 have h := List.takeWhile_append_dropWhile (p := p) (l := L)
 have hl : (L.takeWhile p).length + (L.dropWhile p).length = L.length := by rw [← List.length_append, h]
 have e : L.length - (L.dropWhile p).length = (L.takeWhile p).length := by omega
 refine ⟨?_, ?_, e⟩
 ·rw [e]
  have := List.take_left (l₁ := L.takeWhile p) (l₂ := L.dropWhile p)
  rwa [h] at this
 ·rw [e]
  have := List.drop_left (l₁ := L.takeWhile p) (l₂ := L.dropWhile p)
  rwa [h] at this
theorem extract_front (L : List UInt8) (k : Nat) : (⟨L.toArray⟩ : ByteArray).extract 0 k = ⟨(L.take k).toArray⟩ := by
 apply ByteArray.ext
 simp
theorem extract_back (L : List UInt8) (k : Nat) : (⟨L.toArray⟩ : ByteArray).extract k L.length = ⟨(L.drop k).toArray⟩ := by
 apply ByteArray.ext
 simp
 rw [List.take_of_length_le qH]
def NumPost (w : World) (R : Nat) (x : Option (List UInt8 × List UInt8 × Bool)) (e : Ending) (w' : World) : Prop :=
 w.grownBy w' (some R) ∧ match x with | none => e = .panicked noSum | some (d, r, m) => e = .returned (.string ⟨d.toArray⟩) ∧ RdrAt w' R r m
theorem NumPost.no {w w' : World} {R : Nat} (h : w.grownBy w' (some R)) : NumPost w R none (.panicked noSum) w' := ⟨h, rfl⟩
theorem NumPost.yes {w w' : World} {R : Nat} {d r : List UInt8} {m : Bool} (h : w.grownBy w' (some R)) (hr : RdrAt w' R r m) : NumPost w R (some (d, r, m)) (.returned (.string ⟨d.toArray⟩)) w' := ⟨h, rfl, hr⟩
theorem grown_drew {w w' : World} {row : Option Nat} (h : w.grownBy w' row) : w.grownBy w'.drew row := ⟨h.os, h.tape, h.output, h.size, h.block⟩
theorem RdrAt.drew {w : World} {R : Nat} {L : List UInt8} {many : Bool} (h : RdrAt w R L many) : RdrAt w.drew R L many := ⟨h.c0, h.c1, h.f0, h.f1⟩
theorem trimDig_c (w : World) (L r : List UInt8) (hr : L.dropWhile isDig = r) : Calls Tryz.prog 191 #[.string ⟨L.toArray⟩, .string ⟨#[48, 49, 50, 51, 52, 53, 54, 55, 56, 57]⟩] w fun e w' => e = .returned (.string ⟨r.toArray⟩) ∧ Below w.heap.size w w' := by
 have := Tryz.TrimLeft_set ⟨L.toArray⟩ ⟨#[48, 49, 50, 51, 52, 53, 54, 55, 56, 57]⟩ w (by simp [ByteArray.size]) (Go.Proofs.ascii_of_all qC)
 rw [trim_dig, hr] at this
 exact this
theorem number_c (w : World) (R : Nat) (L : List UInt8) (many : Bool) (h : RdrAt w R L many) (hL : L.length < 1000000000) :
  Calls Tryz.prog 244 #[.pointer (some ⟨R, 0, none⟩)] w (NumPost w R (rdNum L many)) := by
 have h0 := h.c0
 have f0 := h.f0
 have h1 := h.c1
 have f1 := h.f1
 obtain ⟨t1, t2, t3⟩ := take_of_while isDig L
 have hle : (L.dropWhile isDig).length ≤ L.length := (List.dropWhile_sublist _).length_le
 generalize hr : L.dropWhile isDig = r at *
 generalize hd : L.takeWhile isDig = d at *
 have hw : wrap64 ((L.length : Int) - (r.length : Int)) = (d.length : Int) := by rw [← t3]; unfold wrap64; omega
 go_enter Tryz.func244, Tryz.ntmps244
 go_wp2_with fail
 replace h0 := growC h0
 (refine wp_region_grow qG qG ?_; (repeat (go_big_quiet_step (first | (go_at_call 191; exact growL (trimDig_c _ L r hr))))); refine wpQuiet_nil ?_; intro _ hw0; obtain ⟨nq, hw0⟩ := hw0; subst hw0)
 obtain ⟨w1, hb⟩ := nq
 have hn : (L.length : Int) - (r.length : Int) = (d.length : Int) := by omega
 have hR := h.keep hb
 have c0 := hR.c0
 have c1 := hR.c1
 have z0 := hR.f0
 have z1 := hR.f1
 rw [hn]
 have q1 : ∀ W : World, (Instr.sliceAt 9 (.string ⟨L.toArray⟩) none (some (.int .i64 (d.length : Int))) none).run Tryz.prog W = .ok (.string ⟨d.toArray⟩) W := fun W => by
  rw [run_sfront W _ _ (by show d.length ≤ L.toArray.size; simp; omega), extract_front, ← t3, t1]
 have q2 : ∀ W : World, (Instr.sliceAt 9 (.string ⟨L.toArray⟩) (some (.int .i64 (d.length : Int))) none none).run Tryz.prog W = .ok (.string ⟨r.toArray⟩) W := fun W => by
  rw [run_sback W _ _ (by show d.length ≤ L.toArray.size; simp; omega)]
  have : (⟨L.toArray⟩ : ByteArray).size = L.length := by simp [ByteArray.size]
  rw [this, extract_back, ← t3, t2]
 clear h0 h1 f0 f1 hn
 go_wp2_with fail
 refine wp_region_C (fun W => W.cell? ⟨R, 0, none⟩ = some (.string ⟨L.toArray⟩)) 16 qG qK (fun hHeld => ?_)
 (refine AnyC.take 16 (i := 0) (v := ?_) rfl qG (fun _ _ _ h => h) (Or.inl ⟨by rfl, ?_⟩) qI ?_; rotate_left; (focus (intro w' hSw; (try dsimp only at hSw); go_simp; (try with_reducible rfl))); (try simp only [Act.put, List.setIfInBounds_toArray, List.set_cons_zero, List.set_cons_succ]))
 (refine AnyC.take 16 (i := 1) (v := ?_) rfl qG (fun _ _ _ h => h) (Or.inl ⟨by rfl, ?_⟩) qI ?_; rotate_left; (focus (intro w' hSw; (try dsimp only at hSw); go_simp; (try with_reducible rfl))); (try simp only [Act.put, List.setIfInBounds_toArray, List.set_cons_zero, List.set_cons_succ]))
 (refine AnyC.take 16 (i := 2) (v := ?_) rfl qG (fun _ _ _ h => h) (Or.inl ⟨by rfl, ?_⟩) qI ?_; rotate_left; (focus (intro w' hSw; (try dsimp only at hSw); go_simp; (try with_reducible rfl))); (try simp only [Act.put, List.setIfInBounds_toArray, List.set_cons_zero, List.set_cons_succ]))
 (refine AnyC.take 16 (i := 3) (v := ?_) rfl qG (fun _ _ _ h => h) (Or.inl ⟨by rfl, ?_⟩) qI ?_; rotate_left; (focus (intro w' hSw; (try dsimp only at hSw); go_simp; (try with_reducible rfl))); (try simp only [Act.put, List.setIfInBounds_toArray, List.set_cons_zero, List.set_cons_succ]))
 (refine AnyC.take 16 (i := 4) (v := ?_) rfl qG (fun _ _ _ h => h) (Or.inl ⟨by rfl, ?_⟩) qI ?_; rotate_left; (focus (intro w' hSw; (try dsimp only at hSw); go_simp; (try with_reducible rfl))); (try simp only [Act.put, List.setIfInBounds_toArray, List.set_cons_zero, List.set_cons_succ]))
 (refine AnyC.take 16 (i := 5) (v := ?_) rfl qG (fun _ _ _ h => h) (Or.inl ⟨by rfl, ?_⟩) qI ?_; rotate_left; (focus (intro w' hSw; (try dsimp only at hSw); go_simp; (try with_reducible rfl))); (try simp only [Act.put, List.setIfInBounds_toArray, List.set_cons_zero, List.set_cons_succ]))
 (refine AnyC.take 16 (i := 6) (v := ?_) rfl qG (fun _ _ _ h => h) (Or.inl ⟨by rfl, ?_⟩) qI ?_; rotate_left; (focus (intro w' hSw; (try dsimp only at hSw); go_simp; (try with_reducible rfl))); (try simp only [Act.put, List.setIfInBounds_toArray, List.set_cons_zero, List.set_cons_succ]))
 (refine AnyC.take 16 (i := 7) (v := ?_) rfl qG (fun _ _ _ h => h) (Or.inl ⟨by rfl, ?_⟩) qI ?_; rotate_left; (focus (intro w' hSw; (try dsimp only at hSw); go_simp; (try with_reducible rfl))); (try simp only [Act.put, List.setIfInBounds_toArray, List.set_cons_zero, List.set_cons_succ]))
 (refine AnyC.take 16 (i := 8) (v := ?_) rfl qG (fun _ _ _ h => h) (Or.inl ⟨by rfl, ?_⟩) qI ?_; rotate_left; (focus (intro w' hSw; (try dsimp only at hSw); go_simp; (try with_reducible rfl))); (try simp only [Act.put, List.setIfInBounds_toArray, List.set_cons_zero, List.set_cons_succ]))
 (refine AnyC.take 16 (i := 9) (v := ?_) rfl qG (fun _ _ _ h => h) (Or.inl ⟨by rfl, ?_⟩) qI ?_; rotate_left; (focus (intro w' hSw; (try dsimp only at hSw); go_simp; (try with_reducible rfl))); (try simp only [Act.put, List.setIfInBounds_toArray, List.set_cons_zero, List.set_cons_succ]))
 (refine AnyC.take 16 (i := 10) (v := ?_) rfl qG (fun _ _ _ h => h) (Or.inl ⟨by rfl, ?_⟩) qI ?_; rotate_left; (focus (intro w' hSw; (try dsimp only at hSw); go_simp; (try with_reducible rfl))); (try simp only [Act.put, List.setIfInBounds_toArray, List.set_cons_zero, List.set_cons_succ]))
 (refine AnyC.take 16 (i := 11) (v := ?_) rfl qG (fun _ _ _ h => h) (Or.inl ⟨by rfl, ?_⟩) qI ?_; rotate_left; (focus (intro w' hSw; (try dsimp only at hSw); go_simp; (try with_reducible rfl))); (try simp only [Act.put, List.setIfInBounds_toArray, List.set_cons_zero, List.set_cons_succ]))
 (refine AnyC.take 16 (i := 12) (v := ?_) rfl qG (fun _ _ _ h => h) (Or.inl ⟨by rfl, ?_⟩) qI ?_; rotate_left; (focus (intro w' hSw; (try dsimp only at hSw); go_simp; (try with_reducible rfl))); (try simp only [Act.put, List.setIfInBounds_toArray, List.set_cons_zero, List.set_cons_succ]))
 (refine AnyC.one (i := 13) rfl qG (fun K hK => ?_); go_simp; skip; (try go_wp2_with fail); refine hK.out _ _ (fun _ => qK) ?_; clear hK K; (try simp only [Act.put, List.setIfInBounds_toArray, List.set_cons_zero, List.set_cons_succ]))
 (refine AnyC.one (i := 14) rfl qG (fun K hK => ?_); go_simp; skip; (try go_wp2_with fail); refine hK.out _ _ (fun _ => qK) ?_; clear hK K; (try simp only [Act.put, List.setIfInBounds_toArray, List.set_cons_zero, List.set_cons_succ]))
 (refine AnyC.one (i := 15) rfl qG (fun K hK => ?_); go_simp; skip; (try go_wp2_with fail); refine hK.out _ _ (fun _ => qK) ?_; clear hK K; (try simp only [Act.put, List.setIfInBounds_toArray, List.set_cons_zero, List.set_cons_succ]))
 (refine AnyC.one (i := 16) rfl qG (fun K hK => ?_); go_simp; refine hK.out _ _ (fun h => absurd h qC) ?_; clear hK K; (try simp only [Act.put, List.setIfInBounds_toArray, List.set_cons_zero, List.set_cons_succ]))
 refine AnyC.done qG ?_ _
 have hR1 := (hR.set0 r)
 have hall : d.all isDig = true := by rw [← hd]; exact List.all_takeWhile
 have hg1 : w.grownBy (w1.setCell ⟨R, 0, none⟩ (.string ⟨r.toArray⟩)) (some R) := grown_set _ (grown_below hb _)
 have HN := Lib.hid (show rdNum L many = if digitsB d then some (d, r, many || decide (200 < d.length)) else none by unfold rdNum; rw [hd, hr])
 have HA := Lib.hid hall
 clear c0 c1 z0 z1 t1 t2 t3 hw hle hr hd q1 q2 hR hb h hall
 generalize (w1.setCell ⟨R, 0, none⟩ (.string ⟨r.toArray⟩)) = w2 at *
 have c0 := hR1.c0
 have c1 := hR1.c1
 have z0 := hR1.f0
 have z1 := hR1.f1
 cases d with
 | nil =>
  go_wp2_with (first | (go_at_call 130; refine (must_no _).mono ?_; rintro e w3 ⟨rfl, rfl⟩))
  refine ⟨rfl, ?_⟩
  rw [HN.out]
  exact .no (grown_drew hg1)
 | cons b t =>
  have hy : (⟨(b :: t).toArray⟩ : ByteArray)[0]'(by simp [ByteArray.size]) = b := by simp [ByteArray.getElem_eq_getElem_data]
  by_cases hb : b = 48
  ·subst hb
   cases t with
   | nil =>
    go_wp2_with (first | (go_at_call 130; refine (must_yes _).mono ?_; rintro e w3 ⟨rfl, rfl⟩))
    all_goals
     refine bodyPost_ret (v := .string ⟨([48] : List UInt8).toArray⟩) (by simp [results, Tryz.results244, go_sem]) rfl ?_
     rw [HN.out, if_pos qP]
     refine .yes (grown_drew (grown_set _ hg1)) ?_
     first
      | (rw [show (many || decide (200 < ([48] : List UInt8).length)) = true by simp [*]]; exact (hR1.set1 true).drew)
      | (rw [show (many || decide (200 < ([48] : List UInt8).length)) = false by simp [*]]; exact (hR1.set1 false).drew)
   | cons c t' =>
    go_wp2_with (first | (go_at_call 130; refine (must_no _).mono ?_; rintro e w3 ⟨rfl, rfl⟩))
    refine ⟨rfl, ?_⟩
    rw [HN.out, show digitsB (48 :: c :: t') = false by simp [digitsB]]
    exact .no (grown_drew hg1)
  ·have hb' : ¬ (b.toNat : Int) = 48 := fun e => hb (UInt8.toNat_inj.1 (by show b.toNat = 48; omega))
   have hdig : Hid (digitsB (b :: t) = true) := Lib.hid (by simp only [digitsB, HA.out, Bool.true_and]; simp [hb'])
   have hcond : (b == 48 && t.isEmpty || ((b.toNat : Int) != 48)) = true := by simp [hb']
   go_wp2_with (first | (go_at_call 130; refine (must_yes _).mono ?_; rintro e w3 ⟨rfl, rfl⟩))
   all_goals
    refine bodyPost_ret (v := .string ⟨(b :: t).toArray⟩) (by simp [results, Tryz.results244, go_sem]) rfl ?_
    rw [HN.out, if_pos hdig.out]
    refine .yes (grown_drew (grown_set _ hg1)) ?_
    first
     | (rw [show (many || decide (200 < (b :: t).length)) = true by (simp [*]; done)]; exact (hR1.set1 true).drew)
     | (rw [show (many || decide (200 < (b :: t).length)) = false by (simp [*]; omega)]; exact (hR1.set1 false).drew)
     | (rw [show (many || decide (200 < (b :: t).length)) = decide (200 < (t.length : Int) + 1) by (have hmf : many = false := by simpa using ‹¬ many = true›); rw [hmf, Bool.false_or, List.length_cons, decide_eq_decide]; omega]; exact (hR1.set1 _).drew)
theorem positive_c (w : World) (R : Nat) (L : List UInt8) (many : Bool) (h : RdrAt w R L many) (hL : L.length < 1000000000) :
  Calls Tryz.prog 243 #[.pointer (some ⟨R, 0, none⟩)] w (NumPost w R (rdPos L many)) := by
 go_enter Tryz.func243, Tryz.ntmps243
 go_wp2_with fail
 refine (number_c _ R L many h hL).mono ?_
 rintro e w1 ⟨hg, hp⟩
 cases hx : rdNum L many with
 | none =>
  rw [hx] at hp
  subst hp
  refine ⟨rfl, ?_⟩
  rw [show rdPos L many = none by unfold rdPos; rw [hx]]
  exact .no hg
 | some x =>
  obtain ⟨d, r, m⟩ := x
  rw [hx] at hp
  obtain ⟨rfl, hr⟩ := hp
  by_cases hd : d = [48]
  ·subst hd
   have HX := Lib.hid (show rdPos L many = none by unfold rdPos; rw [hx]; simp)
   clear hx
   go_wp2_with (first | (go_at_call 130; refine (must_no _).mono ?_; rintro e w3 ⟨rfl, rfl⟩))
   refine ⟨rfl, ?_⟩
   rw [HX.out]
   exact .no hg
  ·have HX := Lib.hid (show rdPos L many = some (d, r, m) by unfold rdPos; rw [hx]; simp [hd])
   have hq1 : (d == [48]) = false := by simp [hd]
   have hq2 : (d != [48]) = true := by simp [hd]
   clear hx
   go_wp2_with (first | (go_at_call 130; refine (must_yes _).mono ?_; rintro e w3 ⟨rfl, rfl⟩))
   refine bodyPost_ret (v := .string ⟨d.toArray⟩) (by simp [results, Tryz.results243, go_sem]) rfl ?_
   rw [HX.out]
   exact .yes hg hr
end Go.Proofs.YtdamegaedmckbaaGreatDoor
end
section
namespace Go.Proofs.YtdamegaedmckbaaGreatDoor
open Go.RowKit
def RetOf (w0 w : World) (p q : Int) (m : Nat) (e : Ending) (w' : World) : Prop :=
 ∃ g1 a1 n1 c1 g2 a2 n2 c2, e = .returned (.agg #[.bool g1, .slice a1 n1 c1, .bool g2, .slice a2 n2 c2]) ∧ FracAt w' g1 a1 n1 c1 p g2 a2 n2 c2 q ∧ n1 ≤ m ∧ n2 ≤ m ∧ (FracAt w0 g1 a1 n1 c1 p g2 a2 n2 c2 q ∨ (Fresh w.heap.size w' a1 c1 ∧ Fresh w.heap.size w' a2 c2)) ∧ Below w.heap.size w w'
theorem fMul_g (w : World) (g1 : Bool) (a1 : Option Addr) (n1 c1 : Nat) (p : Int) (g2 : Bool) (a2 : Option Addr) (n2 c2 : Nat) (q : Int) (h : FracAt w g1 a1 n1 c1 p g2 a2 n2 c2 q)
  (g3 : Bool) (a3 : Option Addr) (n3 c3 : Nat) (p' : Int) (g4 : Bool) (a4 : Option Addr) (n4 c4 : Nat) (q' : Int) (m : Nat) (hof : ∀ W, Below w.heap.size w W → Calls Tryz.prog 108 #[.agg #[.bool g3, .slice a3 n3 c3, .bool g4, .slice a4 n4 c4]] W (RetOf w W p' q' m)) (hb1 : n1 ≤ 1000000000) (hb2 : n2 ≤ 1000000000) (hm : m ≤ 1000000000) :
  Calls Tryz.prog 106 #[.agg #[.bool g1, .slice a1 n1 c1, .bool g2, .slice a2 n2 c2], .agg #[.bool g3, .slice a3 n3 c3, .bool g4, .slice a4 n4 c4]] w (RetFrac w (lowP (p * p') (q * q')) (lowQ (p * p') (q * q'))) := by
 have HB := Below.refl w.heap.size w
 have HOF := Lib.hid hof
 clear hof
 go_enter Tryz.func106, Tryz.ntmps106
 go_wp2_with fail
 refine wp_region_C (fun W => W.cell? ⟨w.heap.size, 0, none⟩ = some (.bool g1) ∧ W.cell? ⟨w.heap.size, 1, none⟩ = some (.slice a1 n1 c1) ∧ W.cell? ⟨w.heap.size, 2, none⟩ = some (.bool g2) ∧ W.cell? ⟨w.heap.size, 3, none⟩ = some (.slice a2 n2 c2) ∧ W.cell? ⟨w.heap.size + 1, 0, none⟩ = some (.bool g3) ∧ W.cell? ⟨w.heap.size + 1, 1, none⟩ = some (.slice a3 n3 c3) ∧ W.cell? ⟨w.heap.size + 1, 2, none⟩ = some (.bool g4) ∧ W.cell? ⟨w.heap.size + 1, 3, none⟩ = some (.slice a4 n4 c4)) 4 qG qK (fun hHeld => ?_)
 (refine AnyC.take 1 (i := 0) (v := ?_) rfl qG (fun _ _ _ h => h) (Or.inl ⟨by rfl, ?_⟩) qI ?_; rotate_left; (focus (intro w' hSw; (try dsimp only at hSw); go_simp; (try with_reducible rfl))); (try simp only [Act.put, List.setIfInBounds_toArray, List.set_cons_zero, List.set_cons_succ]))
 (refine AnyC.take 3 (i := 2) (v := ?_) rfl qG (fun _ _ _ h => h) (Or.inl ⟨by rfl, ?_⟩) qI ?_; rotate_left; (focus (intro w' hSw; (try dsimp only at hSw); go_simp; (try with_reducible rfl))); (try simp only [Act.put, List.setIfInBounds_toArray, List.set_cons_zero, List.set_cons_succ]))
 (refine AnyC.one (i := 1) rfl qG (fun K hK => ?_); go_simp; (go_at_call 108; (with_reducible refine (fof_c _ _ _ _ _ _ _ _ _ _ _ (h.keep qF) qB qB).mono ?_); rintro e w1 ⟨rfl, hb⟩; obtain ⟨hc, hf⟩ := bcell hb; have hz := hb.size; (try simp only [World.size_alloc, World.size_drew] at hz); replace HB := zB w hb; obtain ⟨s0_0, s0_1⟩ := qV hc (w.heap.size) (.bool g1) (.slice a1 n1 c1); obtain ⟨s0_2, s0_3⟩ := qW hc (w.heap.size) (.bool g2) (.slice a2 n2 c2); obtain ⟨s1_0, s1_1⟩ := qV hc (w.heap.size + 1) (.bool g3) (.slice a3 n3 c3); obtain ⟨s1_2, s1_3⟩ := qW hc (w.heap.size + 1) (.bool g4) (.slice a4 n4 c4); obtain ⟨s2_0, s2_1⟩ := qX hc (w.heap.size + 1 + 1); obtain ⟨s2_2, s2_3⟩ := qW hc (w.heap.size + 1 + 1) (.bool false) (.slice none 0 0); obtain ⟨f2_0, f2_1⟩ := qY hf (w.heap.size + 1 + 1); obtain ⟨f2_2, f2_3⟩ := qZ hf (w.heap.size + 1 + 1); obtain ⟨f0_0, f0_1⟩ := qY hf (w.heap.size); obtain ⟨f0_2, f0_3⟩ := qZ hf (w.heap.size); obtain ⟨f1_0, f1_1⟩ := qY hf (w.heap.size + 1); obtain ⟨f1_2, f1_3⟩ := qZ hf (w.heap.size + 1)); (try go_wp2_with fail); refine hK.out _ _ (fun _ => qK) ?_; clear hK K; (try simp only [Act.put, List.setIfInBounds_toArray, List.set_cons_zero, List.set_cons_succ]))
 (refine AnyC.one (i := 3) rfl qG (fun K hK => ?_); go_simp; (go_at_call 108; (with_reducible refine (HOF.out _ qF).mono ?_); rintro e w2 ⟨g5, a5, n5, c5, g6, a6, n6, c6, rfl, hF, hm5, hm6, hold, hb2⟩; have hb12 : Below w1.heap.size w1 w2 := Below.trans (by first|assumption|go_grown) (hb2.mono qA); have hsz2 := hb12.size; (replace f0_0 := (Below.frozen hb12 (World.block_lt_of_cell? _ _ s0_0)).trans f0_0; replace s0_0 := cell_keep hb12 s0_0; replace f0_1 := (Below.frozen hb12 (World.block_lt_of_cell? _ _ s0_1)).trans f0_1; replace s0_1 := cell_keep hb12 s0_1; replace f0_2 := (Below.frozen hb12 (World.block_lt_of_cell? _ _ s0_2)).trans f0_2; replace s0_2 := cell_keep hb12 s0_2; replace f0_3 := (Below.frozen hb12 (World.block_lt_of_cell? _ _ s0_3)).trans f0_3; replace s0_3 := cell_keep hb12 s0_3; replace f1_0 := (Below.frozen hb12 (World.block_lt_of_cell? _ _ s1_0)).trans f1_0; replace s1_0 := cell_keep hb12 s1_0; replace f1_1 := (Below.frozen hb12 (World.block_lt_of_cell? _ _ s1_1)).trans f1_1; replace s1_1 := cell_keep hb12 s1_1; replace f1_2 := (Below.frozen hb12 (World.block_lt_of_cell? _ _ s1_2)).trans f1_2; replace s1_2 := cell_keep hb12 s1_2; replace f1_3 := (Below.frozen hb12 (World.block_lt_of_cell? _ _ s1_3)).trans f1_3; replace s1_3 := cell_keep hb12 s1_3; replace f2_0 := (Below.frozen hb12 (World.block_lt_of_cell? _ _ s2_0)).trans f2_0; replace s2_0 := cell_keep hb12 s2_0; replace f2_1 := (Below.frozen hb12 (World.block_lt_of_cell? _ _ s2_1)).trans f2_1; replace s2_1 := cell_keep hb12 s2_1; replace f2_2 := (Below.frozen hb12 (World.block_lt_of_cell? _ _ s2_2)).trans f2_2; replace s2_2 := cell_keep hb12 s2_2; replace f2_3 := (Below.frozen hb12 (World.block_lt_of_cell? _ _ s2_3)).trans f2_3; replace s2_3 := cell_keep hb12 s2_3); replace HB := HB.trans (hb12.mono HB.size)); (try go_wp2_with fail); refine hK.out _ _ (fun _ => qK) ?_; clear hK K; (try simp only [Act.put, List.setIfInBounds_toArray, List.set_cons_zero, List.set_cons_succ]))
 (refine AnyC.one (i := 4) rfl qG (fun K hK => ?_); go_simp; refine hK.out _ _ (fun h => absurd h qC) ?_; clear hK K; (try simp only [Act.put, List.setIfInBounds_toArray, List.set_cons_zero, List.set_cons_succ]))
 (refine AnyC.one (i := 5) rfl qG (fun K hK => ?_); go_simp; refine hK.out _ _ (fun h => absurd h qC) ?_; clear hK K; (try simp only [Act.put, List.setIfInBounds_toArray, List.set_cons_zero, List.set_cons_succ]))
 refine AnyC.done qG ?_ _
 have hk2 : w.heap.size + 1 + 1 < w2.heap.size := World.block_lt_of_cell? _ _ s2_0
 have hk1 := HB.size
 go_upto_region 2 with fail
 refine wp_name ?_
 intro w3 hw3
 have HB3 : Below w.heap.size w w3 := by rw [hw3]; go_grown
 have A0 : w3.cell? ⟨w.heap.size, 0, none⟩ = some (.bool g1) := by rw [hw3]; simp [*, go_sem]
 have A1 : w3.cell? ⟨w.heap.size, 1, none⟩ = some (.slice a1 n1 c1) := by rw [hw3]; simp [*, go_sem]
 have A2 : w3.cell? ⟨w.heap.size, 2, none⟩ = some (.bool g2) := by rw [hw3]; simp [*, go_sem]
 have A3 : w3.cell? ⟨w.heap.size, 3, none⟩ = some (.slice a2 n2 c2) := by rw [hw3]; simp [*, go_sem]
 have B0 : w3.cell? ⟨w.heap.size + 1, 0, none⟩ = some (.bool g5) := by rw [hw3]; simp [*, go_sem]
 have B1 : w3.cell? ⟨w.heap.size + 1, 1, none⟩ = some (.slice a5 n5 c5) := by rw [hw3]; simp [*, go_sem]
 have B2 : w3.cell? ⟨w.heap.size + 1, 2, none⟩ = some (.bool g6) := by rw [hw3]; simp [*, go_sem]
 have B3 : w3.cell? ⟨w.heap.size + 1, 3, none⟩ = some (.slice a6 n6 c6) := by rw [hw3]; simp [*, go_sem]
 have R0 : w3.cell? ⟨w.heap.size + 1 + 1, 0, none⟩ = some (.bool false) := by rw [hw3]; simp [*, go_sem]
 have R1 : w3.cell? ⟨w.heap.size + 1 + 1, 1, none⟩ = some (.slice none 0 0) := by rw [hw3]; simp [*, go_sem]
 have R2 : w3.cell? ⟨w.heap.size + 1 + 1, 2, none⟩ = some (.bool false) := by rw [hw3]; simp [*, go_sem]
 have R3 : w3.cell? ⟨w.heap.size + 1 + 1, 3, none⟩ = some (.slice none 0 0) := by rw [hw3]; simp [*, go_sem]
 have Rf0 : w3.frozen? ⟨w.heap.size + 1 + 1, 0, none⟩ = false := by rw [hw3]; simp [*, go_sem]
 have Rf1 : w3.frozen? ⟨w.heap.size + 1 + 1, 1, none⟩ = false := by rw [hw3]; simp [*, go_sem]
 have Rf2 : w3.frozen? ⟨w.heap.size + 1 + 1, 2, none⟩ = false := by rw [hw3]; simp [*, go_sem]
 have Rf3 : w3.frozen? ⟨w.heap.size + 1 + 1, 3, none⟩ = false := by rw [hw3]; simp [*, go_sem]
 have hF3 : FracAt w3 g5 a5 n5 c5 p' g6 a6 n6 c6 q' := by
  rcases hold with ho | ⟨f5, f6⟩
  ·exact ho.keep HB3
  ·have l0 : w.heap.size < w1.heap.size := by omega
   have l1 : w.heap.size + 1 < w1.heap.size := by omega
   rw [hw3]
   exact ⟨(hF.top.set4 f5 _ _ _ _ _ _ _ _ l0 l0 l0 l0).set4 (f5.set4 _ _ _ _ _ _ _ _ l0 l0 l0 l0) _ _ _ _ _ _ _ _ l1 l1 l1 l1, (hF.low.set4 f6 _ _ _ _ _ _ _ _ l0 l0 l0 l0).set4 (f6.set4 _ _ _ _ _ _ _ _ l0 l0 l0 l0) _ _ _ _ _ _ _ _ l1 l1 l1 l1, hF.pos, hF.red⟩
 have e1 := h.top.rd.len
 have e3 := hF3.top.rd.len
 have i1 := dg_len_mulI p p'
 have HD : Hid ((dg (p * p').natAbs).length < 35184372088829) := Lib.hid qB
 have hk3 : w.heap.size + 1 + 1 + 1 ≤ w3.heap.size := World.block_lt_of_cell? _ _ R0
 clear hw3 e1 e3 i1 HB hc hf hb hz hF hold hb2 hb12 hsz2 hk2 hk1 s0_0 s0_1 s0_2 s0_3 s1_0 s1_1 s1_2 s1_3 s2_0 s2_1 s2_2 s2_3 f0_0 f0_1 f0_2 f0_3 f1_0 f1_1 f1_2 f1_3 f2_0 f2_1 f2_2 f2_3
 go_wp2_with fail
 refine (make2_173 _ _ _ _ _ _ _ _ _ _ _ (h.keep HB3) _ _ _ _ _ _ _ _ _ _ hF3 hb1 hb2 qB qB _ _ (p * p') HD.out (fun W gx ax nx cx gy ay ny cy hW hx hy => fMul1_c W w.heap.size (w.heap.size + 1) gx ax nx cx gy ay ny cy _ _ _ _ p ((h.keep HB3).top.keep hW) _ _ _ _ p' (hF3.top.keep hW) qB qB (cell_keep hW A0) (cell_keep hW A1) (cell_keep hW B0) (cell_keep hW B1))).mono ?_
 rintro e w4 ⟨ge, ae, ne, ce, gf, af, nf, cf, rfl, hr, hfe, hff, hb⟩
 have HB4 := HB3.trans (hb.mono HB3.size)
 (replace Rf0 := (Below.frozen hb (World.block_lt_of_cell? _ _ R0)).trans Rf0; replace Rf1 := (Below.frozen hb (World.block_lt_of_cell? _ _ R1)).trans Rf1; replace Rf2 := (Below.frozen hb (World.block_lt_of_cell? _ _ R2)).trans Rf2; replace Rf3 := (Below.frozen hb (World.block_lt_of_cell? _ _ R3)).trans Rf3; replace R0 := cell_keep hb R0; replace R1 := cell_keep hb R1; replace R2 := cell_keep hb R2; replace R3 := cell_keep hb R3)
 have fe : Fresh (w.heap.size + 1 + 1 + 1) w4 ae ce := hfe.mono hk3
 have ff : Fresh (w.heap.size + 1 + 1 + 1) w4 af cf := hff.mono hk3
 have u2 : w.heap.size + 1 + 1 < w.heap.size + 1 + 1 + 1 := Nat.lt_succ_self _
 clear hb HB3 hfe hff
 go_wp2_with fail
 refine bodyPost_ret (v := .agg #[.bool ge, .slice ae ne ce, .bool gf, .slice af nf cf]) (by simp [results, Tryz.results106, go_sem, R0, R1, R2, R3]) rfl ?_
 exact qAt
theorem fMul_c (w : World) (g1 : Bool) (a1 : Option Addr) (n1 c1 : Nat) (p : Int) (g2 : Bool) (a2 : Option Addr) (n2 c2 : Nat) (q : Int) (h : FracAt w g1 a1 n1 c1 p g2 a2 n2 c2 q)
  (g3 : Bool) (a3 : Option Addr) (n3 c3 : Nat) (p' : Int) (g4 : Bool) (a4 : Option Addr) (n4 c4 : Nat) (q' : Int) (h' : FracAt w g3 a3 n3 c3 p' g4 a4 n4 c4 q') (hb1 : n1 ≤ 1000000000) (hb2 : n2 ≤ 1000000000) (hb3 : n3 ≤ 1000000000) (hb4 : n4 ≤ 1000000000) :
  Calls Tryz.prog 106 #[.agg #[.bool g1, .slice a1 n1 c1, .bool g2, .slice a2 n2 c2], .agg #[.bool g3, .slice a3 n3 c3, .bool g4, .slice a4 n4 c4]] w (RetFrac w (lowP (p * p') (q * q')) (lowQ (p * p') (q * q'))) :=
 fMul_g w g1 a1 n1 c1 p g2 a2 n2 c2 q h g3 a3 n3 c3 p' g4 a4 n4 c4 q' 1000000000 (fun W hW => (fof_c W _ _ _ _ _ _ _ _ _ _ (h'.keep hW) qB qB).mono (fun e w' ⟨he, hb⟩ => ⟨_, _, _, _, _, _, _, _, he, (h'.keep hW).keep hb, hb3, hb4, .inl h', hb⟩)) hb1 hb2 (Nat.le_refl _)
end Go.Proofs.YtdamegaedmckbaaGreatDoor
end
