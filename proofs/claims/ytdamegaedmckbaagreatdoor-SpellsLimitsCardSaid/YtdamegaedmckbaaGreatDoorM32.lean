/- The reader of the shipped package: number, positive. No further condition. -/
import Derived.Test.YtdamegaedmckbaaGreatDoorM31
set_option linter.unusedSimpArgs false
set_option linter.unusedVariables false
section
namespace Go.Proofs.YtdamegaedmckbaaGreatDoor
open Go.RowKit

theorem take_of_while (p : UInt8 → Bool) (L : List UInt8) : L.take (L.length - (L.dropWhile p).length) = L.takeWhile p ∧ L.drop (L.length - (L.dropWhile p).length) = L.dropWhile p ∧ L.length - (L.dropWhile p).length = (L.takeWhile p).length := by
  have h := List.takeWhile_append_dropWhile (p := p) (l := L)
  have hl : (L.takeWhile p).length + (L.dropWhile p).length = L.length := by rw [← List.length_append, h]
  have e : L.length - (L.dropWhile p).length = (L.takeWhile p).length := by omega
  refine ⟨?_, ?_, e⟩
  · rw [e]
    have := List.take_left (l₁ := L.takeWhile p) (l₂ := L.dropWhile p)
    rwa [h] at this
  · rw [e]
    have := List.drop_left (l₁ := L.takeWhile p) (l₂ := L.dropWhile p)
    rwa [h] at this
theorem extract_front (L : List UInt8) (k : Nat) : (⟨L.toArray⟩ : ByteArray).extract 0 k = ⟨(L.take k).toArray⟩ := by
  apply ByteArray.ext
  simp
theorem extract_back (L : List UInt8) (k : Nat) : (⟨L.toArray⟩ : ByteArray).extract k L.length = ⟨(L.drop k).toArray⟩ := by
  apply ByteArray.ext
  simp
  rw [List.take_of_length_le (by simp)]
/-- What number, or positive, ends with. -/
def NumPost (w : World) (R : Nat) (x : Option (List UInt8 × List UInt8 × Bool)) (e : Ending) (w' : World) : Prop :=
  w.grownBy w' (some R) ∧ match x with | none => e = .panicked noSum | some (d, r, m) => e = .returned (.string ⟨d.toArray⟩) ∧ RdrAt w' R r m
theorem NumPost.no {w w' : World} {R : Nat} (h : w.grownBy w' (some R)) : NumPost w R none (.panicked noSum) w' := ⟨h, rfl⟩
theorem NumPost.yes {w w' : World} {R : Nat} {d r : List UInt8} {m : Bool} (h : w.grownBy w' (some R)) (hr : RdrAt w' R r m) : NumPost w R (some (d, r, m)) (.returned (.string ⟨d.toArray⟩)) w' := ⟨h, rfl, hr⟩
theorem grown_drew {w w' : World} {row : Option Nat} (h : w.grownBy w' row) : w.grownBy w'.drew row := ⟨h.os, h.tape, h.output, h.size, h.block⟩
theorem RdrAt.drew {w : World} {R : Nat} {L : List UInt8} {many : Bool} (h : RdrAt w R L many) : RdrAt w.drew R L many := ⟨h.c0, h.c1, h.f0, h.f1⟩
theorem trimDig_c (w : World) (L r : List UInt8) (hr : L.dropWhile isDig = r) : Calls Tryz.prog 191 #[.string ⟨L.toArray⟩, .string ⟨#[48, 49, 50, 51, 52, 53, 54, 55, 56, 57]⟩] w fun e w' => e = .returned (.string ⟨r.toArray⟩) ∧ Below w.heap.size w w' := by
  have := Tryz.TrimLeft_set ⟨L.toArray⟩ ⟨#[48, 49, 50, 51, 52, 53, 54, 55, 56, 57]⟩ w (by simp [ByteArray.size]) (Go.Proofs.ascii_of_all (by decide))
  rw [trim_dig, hr] at this
  exact this
set_option maxRecDepth 100000 in
set_option maxHeartbeats 4000000 in
theorem number_c (w : World) (R : Nat) (L : List UInt8) (many : Bool) (h : RdrAt w R L many) (hL : L.length < 1000000000) :
    Calls Tryz.prog 244 #[.pointer (some ⟨R, 0, none⟩)] w (NumPost w R (rdNum L many)) := by
  have h0 := h.c0
  have f0 := h.f0
  have h1 := h.c1
  have f1 := h.f1
  obtain ⟨t1, t2, t3⟩ := take_of_while isDig L
  have hle : (L.dropWhile isDig).length ≤ L.length := (List.dropWhile_sublist _).length_le
  generalize hr : L.dropWhile isDig = r at *
  generalize hd : L.takeWhile isDig = d at *
  have hw : wrap64 ((L.length : Int) - (r.length : Int)) = (d.length : Int) := by rw [← t3]; unfold wrap64; omega
  go_enter Tryz.func244, Tryz.ntmps244
  go_wp2_with fail
  replace h0 := growC h0
  (refine wp_region_grow (by kernel_rfl) (by kernel_rfl) ?_; (repeat (go_big_quiet_step (first | (go_at_call 191; exact growL (trimDig_c _ L r hr))))); refine wpQuiet_nil ?_; intro _ hw0; obtain ⟨nq, hw0⟩ := hw0; subst hw0)
  obtain ⟨w1, hb⟩ := nq
  have hn : (L.length : Int) - (r.length : Int) = (d.length : Int) := by omega
  have hR := h.keep hb
  have c0 := hR.c0
  have c1 := hR.c1
  have z0 := hR.f0
  have z1 := hR.f1
  rw [hn]
  have q1 : ∀ W : World, (Instr.sliceAt 9 (.string ⟨L.toArray⟩) none (some (.int .i64 (d.length : Int))) none).run Tryz.prog W = .ok (.string ⟨d.toArray⟩) W := fun W => by
    rw [run_sfront W _ _ (by show d.length ≤ L.toArray.size; simp; omega), extract_front, ← t3, t1]
  have q2 : ∀ W : World, (Instr.sliceAt 9 (.string ⟨L.toArray⟩) (some (.int .i64 (d.length : Int))) none none).run Tryz.prog W = .ok (.string ⟨r.toArray⟩) W := fun W => by
    rw [run_sback W _ _ (by show d.length ≤ L.toArray.size; simp; omega)]
    have : (⟨L.toArray⟩ : ByteArray).size = L.length := by simp [ByteArray.size]
    rw [this, extract_back, ← t3, t2]
  clear h0 h1 f0 f1 hn
  go_wp2_with fail
  refine wp_region_C (fun W => W.cell? ⟨R, 0, none⟩ = some (.string ⟨L.toArray⟩)) 16 (by kernel_rfl) (by ((try dsimp only); (repeat' apply And.intro); all_goals (first | (with_reducible assumption) | (go_keep; done) | (simp [*, go_sem]; done)))) (fun hHeld => ?_)
  (refine AnyC.take 16 (i := 0) (v := ?_) rfl (by kernel_rfl) (fun _ _ _ h => h) (Or.inl ⟨by rfl, ?_⟩) (by assumption) ?_; rotate_left; (focus (intro w' hSw; (try dsimp only at hSw); go_simp; (try with_reducible rfl))); (try simp only [Act.put, List.setIfInBounds_toArray, List.set_cons_zero, List.set_cons_succ]))
  (refine AnyC.take 16 (i := 1) (v := ?_) rfl (by kernel_rfl) (fun _ _ _ h => h) (Or.inl ⟨by rfl, ?_⟩) (by assumption) ?_; rotate_left; (focus (intro w' hSw; (try dsimp only at hSw); go_simp; (try with_reducible rfl))); (try simp only [Act.put, List.setIfInBounds_toArray, List.set_cons_zero, List.set_cons_succ]))
  (refine AnyC.take 16 (i := 2) (v := ?_) rfl (by kernel_rfl) (fun _ _ _ h => h) (Or.inl ⟨by rfl, ?_⟩) (by assumption) ?_; rotate_left; (focus (intro w' hSw; (try dsimp only at hSw); go_simp; (try with_reducible rfl))); (try simp only [Act.put, List.setIfInBounds_toArray, List.set_cons_zero, List.set_cons_succ]))
  (refine AnyC.take 16 (i := 3) (v := ?_) rfl (by kernel_rfl) (fun _ _ _ h => h) (Or.inl ⟨by rfl, ?_⟩) (by assumption) ?_; rotate_left; (focus (intro w' hSw; (try dsimp only at hSw); go_simp; (try with_reducible rfl))); (try simp only [Act.put, List.setIfInBounds_toArray, List.set_cons_zero, List.set_cons_succ]))
  (refine AnyC.take 16 (i := 4) (v := ?_) rfl (by kernel_rfl) (fun _ _ _ h => h) (Or.inl ⟨by rfl, ?_⟩) (by assumption) ?_; rotate_left; (focus (intro w' hSw; (try dsimp only at hSw); go_simp; (try with_reducible rfl))); (try simp only [Act.put, List.setIfInBounds_toArray, List.set_cons_zero, List.set_cons_succ]))
  (refine AnyC.take 16 (i := 5) (v := ?_) rfl (by kernel_rfl) (fun _ _ _ h => h) (Or.inl ⟨by rfl, ?_⟩) (by assumption) ?_; rotate_left; (focus (intro w' hSw; (try dsimp only at hSw); go_simp; (try with_reducible rfl))); (try simp only [Act.put, List.setIfInBounds_toArray, List.set_cons_zero, List.set_cons_succ]))
  (refine AnyC.take 16 (i := 6) (v := ?_) rfl (by kernel_rfl) (fun _ _ _ h => h) (Or.inl ⟨by rfl, ?_⟩) (by assumption) ?_; rotate_left; (focus (intro w' hSw; (try dsimp only at hSw); go_simp; (try with_reducible rfl))); (try simp only [Act.put, List.setIfInBounds_toArray, List.set_cons_zero, List.set_cons_succ]))
  (refine AnyC.take 16 (i := 7) (v := ?_) rfl (by kernel_rfl) (fun _ _ _ h => h) (Or.inl ⟨by rfl, ?_⟩) (by assumption) ?_; rotate_left; (focus (intro w' hSw; (try dsimp only at hSw); go_simp; (try with_reducible rfl))); (try simp only [Act.put, List.setIfInBounds_toArray, List.set_cons_zero, List.set_cons_succ]))
  (refine AnyC.take 16 (i := 8) (v := ?_) rfl (by kernel_rfl) (fun _ _ _ h => h) (Or.inl ⟨by rfl, ?_⟩) (by assumption) ?_; rotate_left; (focus (intro w' hSw; (try dsimp only at hSw); go_simp; (try with_reducible rfl))); (try simp only [Act.put, List.setIfInBounds_toArray, List.set_cons_zero, List.set_cons_succ]))
  (refine AnyC.take 16 (i := 9) (v := ?_) rfl (by kernel_rfl) (fun _ _ _ h => h) (Or.inl ⟨by rfl, ?_⟩) (by assumption) ?_; rotate_left; (focus (intro w' hSw; (try dsimp only at hSw); go_simp; (try with_reducible rfl))); (try simp only [Act.put, List.setIfInBounds_toArray, List.set_cons_zero, List.set_cons_succ]))
  (refine AnyC.take 16 (i := 10) (v := ?_) rfl (by kernel_rfl) (fun _ _ _ h => h) (Or.inl ⟨by rfl, ?_⟩) (by assumption) ?_; rotate_left; (focus (intro w' hSw; (try dsimp only at hSw); go_simp; (try with_reducible rfl))); (try simp only [Act.put, List.setIfInBounds_toArray, List.set_cons_zero, List.set_cons_succ]))
  (refine AnyC.take 16 (i := 11) (v := ?_) rfl (by kernel_rfl) (fun _ _ _ h => h) (Or.inl ⟨by rfl, ?_⟩) (by assumption) ?_; rotate_left; (focus (intro w' hSw; (try dsimp only at hSw); go_simp; (try with_reducible rfl))); (try simp only [Act.put, List.setIfInBounds_toArray, List.set_cons_zero, List.set_cons_succ]))
  (refine AnyC.take 16 (i := 12) (v := ?_) rfl (by kernel_rfl) (fun _ _ _ h => h) (Or.inl ⟨by rfl, ?_⟩) (by assumption) ?_; rotate_left; (focus (intro w' hSw; (try dsimp only at hSw); go_simp; (try with_reducible rfl))); (try simp only [Act.put, List.setIfInBounds_toArray, List.set_cons_zero, List.set_cons_succ]))
  (refine AnyC.one (i := 13) rfl (by kernel_rfl) (fun K hK => ?_); go_simp; skip; (try go_wp2_with fail); refine hK.out _ _ (fun _ => (by ((try dsimp only); (repeat' apply And.intro); all_goals (first | (with_reducible assumption) | (go_keep; done) | (simp [*, go_sem]; done))))) ?_; clear hK K; (try simp only [Act.put, List.setIfInBounds_toArray, List.set_cons_zero, List.set_cons_succ]))
  (refine AnyC.one (i := 14) rfl (by kernel_rfl) (fun K hK => ?_); go_simp; skip; (try go_wp2_with fail); refine hK.out _ _ (fun _ => (by ((try dsimp only); (repeat' apply And.intro); all_goals (first | (with_reducible assumption) | (go_keep; done) | (simp [*, go_sem]; done))))) ?_; clear hK K; (try simp only [Act.put, List.setIfInBounds_toArray, List.set_cons_zero, List.set_cons_succ]))
  (refine AnyC.one (i := 15) rfl (by kernel_rfl) (fun K hK => ?_); go_simp; skip; (try go_wp2_with fail); refine hK.out _ _ (fun _ => (by ((try dsimp only); (repeat' apply And.intro); all_goals (first | (with_reducible assumption) | (go_keep; done) | (simp [*, go_sem]; done))))) ?_; clear hK K; (try simp only [Act.put, List.setIfInBounds_toArray, List.set_cons_zero, List.set_cons_succ]))
  (refine AnyC.one (i := 16) rfl (by kernel_rfl) (fun K hK => ?_); go_simp; refine hK.out _ _ (fun h => absurd h (by decide)) ?_; clear hK K; (try simp only [Act.put, List.setIfInBounds_toArray, List.set_cons_zero, List.set_cons_succ]))
  refine AnyC.done (by kernel_rfl) ?_ _
  have hR1 := (hR.set0 r)
  have hall : d.all isDig = true := by rw [← hd]; exact List.all_takeWhile
  have hg1 : w.grownBy (w1.setCell ⟨R, 0, none⟩ (.string ⟨r.toArray⟩)) (some R) := grown_set _ (grown_below hb _)
  have HN := Lib.hid (show rdNum L many = if digitsB d then some (d, r, many || decide (200 < d.length)) else none by unfold rdNum; rw [hd, hr])
  have HA := Lib.hid hall
  clear c0 c1 z0 z1 t1 t2 t3 hw hle hr hd q1 q2 hR hb h hall
  generalize (w1.setCell ⟨R, 0, none⟩ (.string ⟨r.toArray⟩)) = w2 at *
  have c0 := hR1.c0
  have c1 := hR1.c1
  have z0 := hR1.f0
  have z1 := hR1.f1
  cases d with
  | nil =>
    go_wp2_with (first | (go_at_call 130; refine (must_no _).mono ?_; rintro e w3 ⟨rfl, rfl⟩))
    refine ⟨rfl, ?_⟩
    rw [HN.out]
    exact .no (grown_drew hg1)
  | cons b t =>
    have hy : (⟨(b :: t).toArray⟩ : ByteArray)[0]'(by simp [ByteArray.size]) = b := by simp [ByteArray.getElem_eq_getElem_data]
    by_cases hb : b = 48
    · subst hb
      cases t with
      | nil =>
        go_wp2_with (first | (go_at_call 130; refine (must_yes _).mono ?_; rintro e w3 ⟨rfl, rfl⟩))
        all_goals
          refine bodyPost_ret (v := .string ⟨([48] : List UInt8).toArray⟩) (by simp [results, Tryz.results244, go_sem]) rfl ?_
          rw [HN.out, if_pos (by rfl)]
          refine .yes (grown_drew (grown_set _ hg1)) ?_
          first
            | (rw [show (many || decide (200 < ([48] : List UInt8).length)) = true by simp [*]]; exact (hR1.set1 true).drew)
            | (rw [show (many || decide (200 < ([48] : List UInt8).length)) = false by simp [*]]; exact (hR1.set1 false).drew)
      | cons c t' =>
        go_wp2_with (first | (go_at_call 130; refine (must_no _).mono ?_; rintro e w3 ⟨rfl, rfl⟩))
        refine ⟨rfl, ?_⟩
        rw [HN.out, show digitsB (48 :: c :: t') = false by simp [digitsB]]
        exact .no (grown_drew hg1)
    · have hb' : ¬ (b.toNat : Int) = 48 := fun e => hb (UInt8.toNat_inj.1 (by show b.toNat = 48; omega))
      have hdig : Hid (digitsB (b :: t) = true) := Lib.hid (by simp only [digitsB, HA.out, Bool.true_and]; simp [hb'])
      have hcond : (b == 48 && t.isEmpty || ((b.toNat : Int) != 48)) = true := by simp [hb']
      go_wp2_with (first | (go_at_call 130; refine (must_yes _).mono ?_; rintro e w3 ⟨rfl, rfl⟩))
      all_goals
        refine bodyPost_ret (v := .string ⟨(b :: t).toArray⟩) (by simp [results, Tryz.results244, go_sem]) rfl ?_
        rw [HN.out, if_pos hdig.out]
        refine .yes (grown_drew (grown_set _ hg1)) ?_
        first
          | (rw [show (many || decide (200 < (b :: t).length)) = true by (simp [*]; done)]; exact (hR1.set1 true).drew)
          | (rw [show (many || decide (200 < (b :: t).length)) = false by (simp [*]; omega)]; exact (hR1.set1 false).drew)
          | (rw [show (many || decide (200 < (b :: t).length)) = decide (200 < (t.length : Int) + 1) by (have hmf : many = false := by simpa using ‹¬ many = true›); rw [hmf, Bool.false_or, List.length_cons, decide_eq_decide]; omega]; exact (hR1.set1 _).drew)
set_option maxRecDepth 100000 in
set_option maxHeartbeats 4000000 in
theorem positive_c (w : World) (R : Nat) (L : List UInt8) (many : Bool) (h : RdrAt w R L many) (hL : L.length < 1000000000) :
    Calls Tryz.prog 243 #[.pointer (some ⟨R, 0, none⟩)] w (NumPost w R (rdPos L many)) := by
  go_enter Tryz.func243, Tryz.ntmps243
  go_wp2_with fail
  refine (number_c _ R L many h hL).mono ?_
  rintro e w1 ⟨hg, hp⟩
  cases hx : rdNum L many with
  | none =>
    rw [hx] at hp
    subst hp
    refine ⟨rfl, ?_⟩
    rw [show rdPos L many = none by unfold rdPos; rw [hx]]
    exact .no hg
  | some x =>
    obtain ⟨d, r, m⟩ := x
    rw [hx] at hp
    obtain ⟨rfl, hr⟩ := hp
    by_cases hd : d = [48]
    · subst hd
      have HX := Lib.hid (show rdPos L many = none by unfold rdPos; rw [hx]; simp)
      clear hx
      go_wp2_with (first | (go_at_call 130; refine (must_no _).mono ?_; rintro e w3 ⟨rfl, rfl⟩))
      refine ⟨rfl, ?_⟩
      rw [HX.out]
      exact .no hg
    · have HX := Lib.hid (show rdPos L many = some (d, r, m) by unfold rdPos; rw [hx]; simp [hd])
      have hq1 : (d == [48]) = false := by simp [hd]
      have hq2 : (d != [48]) = true := by simp [hd]
      clear hx
      go_wp2_with (first | (go_at_call 130; refine (must_yes _).mono ?_; rintro e w3 ⟨rfl, rfl⟩))
      refine bodyPost_ret (v := .string ⟨d.toArray⟩) (by simp [results, Tryz.results243, go_sem]) rfl ?_
      rw [HX.out]
      exact .yes hg hr
end Go.Proofs.YtdamegaedmckbaaGreatDoor
end
