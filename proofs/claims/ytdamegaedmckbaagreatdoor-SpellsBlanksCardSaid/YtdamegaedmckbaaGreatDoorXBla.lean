/- SpellsBlanks: what the walk gives, as the row asks it. No condition but the variables that the row lists. SpellsBlanks: the row's closed facts, one by one. No condition. SpellsBlanks: blanks between words change nothing: the statement and its card. No condition but the variables that the row lists, which the card ties. -/
import Derived.Test.YtdamegaedmckbaaGreatDoorX39
import Derived.Test.YtdamegaedmckbaaGreatDoorX40
import Derived.Test.YtdamegaedmckbaaGreatDoorRows
import Derived.JoinedOf
import Derived.JoinedCond
import Derived.KernelRfl
set_option linter.unusedSimpArgs false
set_option linter.unusedVariables false
section
namespace Go.Proofs.YtdamegaedmckbaaGreatDoor
open Go.ChangeShapes Go.WideShapes Go.ChangeAt Go.RowKit

set_option maxRecDepth 100000 in
/-- What the walk gives, for every argument and every world that holds the variables. -/
theorem BlaContract (H : Type) (enc : TypeId × Value → H) (W : World) (base : Nat) (args : Array Value) (ds gs : List (DataW H)) (before : List MemPlace)
    (hval : ∀ (j : Nat) t v, Tryz.f7.params[j]? = some t → args[j]? = some v → Value.okWide Tryz.prog W .any base t v)
    (hW : DataW.Whole enc Tryz.prog Tryz.f7.params.toList Rows.spellsBlanksSpec.vars false W args.toList ds gs before)
    (hreach : (DataW.weightsEach Tryz.prog (Tryz.f7.params.toList ++ (OpenSpec.ofChange Rows.spellsBlanksSpec).bare.plain.varTypes Tryz.prog) (ds ++ gs)).all (· ≤ reachBytes) = true)
    (hL : laidMetH Tryz.prog Rows.spellsBlanksRow.laid W) :
    Calls Tryz.prog 7 args W fun e W' => ∃ v, e = .returned v ∧ Rows.spellsBlanksSpec.post enc Tryz.prog Tryz.f7 false true false false W args v W' := by
  have hW' := hW
  obtain ⟨p, q, hA0, hV, rfl, hfz, hnd⟩ := hW
  have hA : DataW.TrodAll enc Tryz.prog W 0 (fun _ => true) true Tryz.f7.params.toList args.toList ds p := hA0
  rw [Tryz.params7] at hA hval hreach
  obtain ⟨v0, vs0, d0, ds0, p0, q0, hargs, rfl, rfl, t0, r0⟩ := trodAll_cons hA
  obtain ⟨v1, vs1, d1, ds1, p1, q1, rfl, rfl, rfl, t1, r1⟩ := trodAll_cons r0
  obtain ⟨rfl, rfl, rfl⟩ := trodAll_nil r1
  obtain rfl : args = #[v0, v1] := by cases args; simp_all
  obtain ⟨rfl, rfl⟩ := trodVars_none hV
  clear hA0
  have fit0 : Fits 23 d0 := fun x hx => by
    have := List.all_eq_true.1 hreach x (DataW.weights_mem_each (j := 0) (t := 23) rfl rfl x hx)
    simpa using this
  obtain ⟨a0, n0, c0, rfl⟩ := okWide_slice Tryz.underlying23 (hval 0 23 v0 rfl rfl)
  have s0 := t0
  obtain ⟨f0, hf0⟩ := t0
  obtain ⟨a', n', c', x0, hcs, h0⟩ := open_poly hf0 fit0
  have hcs' : [Value.slice a0 n0 c0] = [Value.slice a' n' c'] := hcs
  simp only [List.cons.injEq, Value.slice.injEq, and_true] at hcs'
  obtain ⟨rfl, rfl, rfl⟩ := hcs'
  clear hcs
  have hnl0 : a0 = none → c0 = 0 := open_nl (show DataW.trod enc Tryz.prog W 0 (fun _ => true) true f0 23 [.slice a0 n0 c0] = some (d0, p0) from hf0)
  obtain ⟨z1, rfl⟩ := okWide_int Tryz.underlying5 (hval 1 5 v1 rfl rfl)
  have s1 := t1
  obtain ⟨f1, hf1⟩ := t1
  obtain ⟨z', hcs, _, hwf⟩ := DataW.trod_int Tryz.underlying5 hf1
  have hcs' : [Value.int .u8 z1] = [Value.int .u8 z'] := hcs
  simp only [List.cons.injEq, Value.int.injEq, true_and, and_true] at hcs'
  subst hcs'
  clear hcs
  have hz1 : 0 ≤ z1 ∧ z1 < 256 := by
    simp [Lit.wf, IntKind.min, IntKind.max, IntKind.signed, IntKind.bits] at hwf
    omega
  obtain ⟨x1, rfl⟩ : ∃ x : Nat, z1 = x := ⟨z1.toNat, by omega⟩
  have h1 : x1 < 256 := by omega
  have hT := tab_of_laid (r := [("unicode/utf8.acceptRanges", Rows.laid_unicode_utf8_acceptRanges), ("strconv.ErrRange", Rows.laid_strconv_ErrRange), ("strconv.ErrSyntax", Rows.laid_strconv_ErrSyntax), ("unicode/utf8.first", Rows.laid_unicode_utf8_first)]) hL
  obtain ⟨hV, h7⟩ := err_of_laid (r := [("strconv.ErrSyntax", Rows.laid_strconv_ErrSyntax), ("unicode/utf8.first", Rows.laid_unicode_utf8_first)]) hL
  simp only [List.append_nil] at hW'
  refine (SpellsBlanks_c W a0 n0 c0 x0 h0 hnl0 x1 h1 hT hV h7).mono fun e W' ⟨he, hb⟩ => ?_
  subst he
  refine ⟨_, rfl, postOfBelow (pa := p0 ++ (p1)) (pv := []) hW' (fun _ _ _ => trodAll_cons_mk (shut_bool Tryz.underlying4 _) trodAll_mk0) (fun sp hsp => ?_) (fun _ _ => rfl) (by simp) hb (ok_one (by kernel_rfl) rfl (okWide_bool_mk Tryz.underlying4 _))⟩
  have hlt : ∀ x ∈ p0 ++ (p1), x.block < W.heap.size := fun x hx => hW'.lt x (by simpa using hx)
  have k0 := WideElems.Trod_stays (P := Tryz.prog) stLaidOut (by kernel_rfl) (of_decide_eq_true (by kernel_rfl)) s0 (fun x hx => hb.same (hlt x (by simp [hx]))) (fun x hx => hsp x (by simp [hx]))
  have k1 := WideElems.Trod_stays (P := Tryz.prog) stLaidOut (by kernel_rfl) (of_decide_eq_true (by kernel_rfl)) s1 (fun x hx => hb.same (hlt x (by simp [hx]))) (fun x hx => hsp x (by simp [hx]))
  have := trodAll_cons_mk k0 (trodAll_cons_mk k1 (trodAll_mk0))
  rw [List.append_nil] at this
  exact this
theorem BlaLaid (os : Os) : laidMet Tryz.prog Rows.spellsBlanksRow.laid ((slWorld os).forCall (fun _ _ => 0) ⟨#[], #[.slice none 0 0, .int .u8 0], []⟩).memory :=
  laidMet_of_run' 8 (by kernel_rfl) (by kernel_rfl)
theorem BlaReads (os : Os) {H : Type} (enc : TypeId × Value → H) : ∃ places, DataW.whole enc Tryz.prog ((slWorld os).forCall (fun _ _ => 0) ⟨#[], #[.slice none 0 0, .int .u8 0], []⟩).memory Tryz.f7.params.toList Rows.spellsBlanksSpec.vars false #[Value.slice none 0 0, .int .u8 0].toList 8 = some ([.nil, .lit (.int .u8 0)], [], places) :=
  ⟨[], by kernel_rfl⟩
set_option maxRecDepth 100000 in
/-- The first form's step. -/
theorem BlaLifted (os : Os) (started : os.Started) (H : Type) (enc : TypeId × Value → H) (F : Stop.Interp) :
    ReturnsInHanded {} Tryz.checked os 7 .any ((OpenSpec.ofChange Rows.spellsBlanksSpec).preRow enc Tryz.prog Tryz.f7 Rows.spellsBlanksRow.domain false Rows.spellsBlanksRow.laid) (((OpenSpec.ofChange Rows.spellsBlanksSpec).at F).post enc Tryz.prog Tryz.f7 false true false false) := by
  obtain ⟨places, hx⟩ := BlaReads os enc
  refine returnsInHanded_of_row (C := Tryz.checked) (s := OpenSpec.ofChange Rows.spellsBlanksSpec) stOwn started (by kernel_rfl) Tryz.func7
    (witness_row_at (enc := enc) (C := Tryz.checked) false (slWorld os) #[.slice none 0 0, .int .u8 0] rfl (by kernel_rfl) (by kernel_rfl) (by kernel_rfl)
      (OpenSpec.preRow_of_cond 8 hx (by kernel_rfl) (fun k hk => by cases hk) (by kernel_rfl) (BlaLaid os))) ?_
  intro W base args ds gs before hval hW _ _ hreach hL _ _
  exact BlaContract H enc W base args ds gs before hval hW hreach hL
end Go.Proofs.YtdamegaedmckbaaGreatDoor
end
section
namespace Go.Proofs.YtdamegaedmckbaaGreatDoor
theorem BlaFn : Tryz.pinned.checked.prog.funcNamed Rows.spellsBlanksRow.func = some 7 := by kernel_rfl
theorem BlaInst : Tryz.f7.isInstance Tryz.pinned.checked.prog Rows.spellsBlanksRow.origin Rows.spellsBlanksRow.targs := of_decide_eq_true (by kernel_rfl)
theorem BlaWrap : Tryz.f7.isWrapper Tryz.pinned.checked.prog Rows.spellsBlanksRow.wrapper Rows.spellsBlanksRow.mainSum := by unfold Func.isWrapper; first | (rw [if_pos (by decide +kernel)]; kernel_rfl) | (rw [if_neg (by decide +kernel)]; exact ⟨rfl, rfl⟩)
set_option maxHeartbeats 4000000 in
theorem BlaClosed : joinedFacts Tryz.pinned.checked.prog 7 Tryz.f7 (OpenSpec.ofChange Rows.spellsBlanksSpec).bare Rows.spellsBlanksRow = true := by
  unfold joinedFacts
  repeat' with_reducible refine Bool.and_eq_true_iff.2 ⟨?_, ?_⟩
  all_goals as_aux_lemma => kernel_rfl
end Go.Proofs.YtdamegaedmckbaaGreatDoor
end
section
namespace Go.Proofs.YtdamegaedmckbaaGreatDoor
open Go.ChangeShapes Go.WideShapes Go.ChangeAt Go.RowKit

theorem SpellsBlanks_said : Rows.SpellsBlanksSaid :=
  OpenClaim.holds_of_cond 7 Tryz.f7 rfl rfl rfl rfl rfl rfl rfl ⟨rfl, rfl, rfl, rfl, rfl⟩ rfl rfl rfl rfl rfl BlaFn Tryz.func7 BlaClosed BlaInst BlaWrap
    (fun os started H enc _ F => by rw [OpenClaim.pre_eq_preRow]; exact BlaLifted os started H enc F)
theorem BlaPlain (f : FuncId) (fn : Func) (hf : Tryz.pinned.checked.prog.funcNamed "reckoner/reckonerlaw06.SpellsBlanks" = some f) (hfn : Tryz.pinned.checked.prog.funcs[f]? = some fn) :
    true = Tryz.pinned.checked.prog.looks [] ∧ ∀ (j : Nat) t, fn.params[j]? = some t → Tryz.pinned.checked.prog.wantsStandIn t = false := by
  obtain rfl : f = 7 := Option.some.inj ((show Tryz.prog.funcNamed "reckoner/reckonerlaw06.SpellsBlanks" = some 7 by kernel_rfl).symm.trans hf) |>.symm
  obtain rfl : fn = Tryz.f7 := (Option.some.inj (Tryz.func7.symm.trans hfn)).symm
  refine ⟨by kernel_rfl, fun j t ht => ?_⟩
  rw [Tryz.params7] at ht
  have := Array.mem_of_getElem? ht
  simp only [List.mem_toArray, List.mem_cons, List.not_mem_nil, or_false] at this
  rcases this with rfl | rfl
  · exact (show Tryz.prog.wantsStandIn 23 = false by kernel_rfl)
  · exact (show Tryz.prog.wantsStandIn 5 = false by kernel_rfl)
/-- The card. -/
theorem SpellsBlanks_card : Rows.SpellsBlanksCardSaid :=
  Claim7.holds_tied_plain_at .later [] _ _ _ _ SpellsBlanks_said (fun _ h => by cases h) (by kernel_rfl) (fun _ h => by cases h) spellsBlanks_row_tie rfl ⟨rfl, rfl⟩ (by kernel_rfl) rfl BlaPlain (by kernel_rfl)
#print axioms SpellsBlanks_card
end Go.Proofs.YtdamegaedmckbaaGreatDoor
end
