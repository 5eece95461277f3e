/- SpellsTimes: what the walk gives, as the row asks it. No condition but the variables that the row lists. SpellsTimes: the row's closed facts, one by one. No condition. SpellsTimes: a term's text behind another one's is their product, with a * between, or without: the statement and its card. No condition but the variables that the row lists, which the card ties. -/
import Derived.Test.YtdamegaedmckbaaGreatDoorXT0
import Derived.Test.YtdamegaedmckbaaGreatDoorX40
import Derived.Test.YtdamegaedmckbaaGreatDoorRows
import Derived.JoinedOf
import Derived.JoinedCond
import Derived.KernelRfl
set_option linter.unusedSimpArgs false
set_option linter.unusedVariables false
section
namespace Go.Proofs.YtdamegaedmckbaaGreatDoor
open Go.ChangeShapes Go.WideShapes Go.ChangeAt Go.RowKit

set_option maxRecDepth 100000 in
/-- What the walk gives, for every argument and every world that holds the variables. -/
theorem TimContract (H : Type) (enc : TypeId × Value → H) (W : World) (base : Nat) (args : Array Value) (ds gs : List (DataW H)) (before : List MemPlace)
    (hval : ∀ (j : Nat) t v, Tryz.f11.params[j]? = some t → args[j]? = some v → Value.okWide Tryz.prog W .any base t v)
    (hW : DataW.Whole enc Tryz.prog Tryz.f11.params.toList Rows.spellsTimesSpec.vars false W args.toList ds gs before)
    (hreach : (DataW.weightsEach Tryz.prog (Tryz.f11.params.toList ++ (OpenSpec.ofChange Rows.spellsTimesSpec).bare.plain.varTypes Tryz.prog) (ds ++ gs)).all (· ≤ reachBytes) = true)
    (hL : laidMetH Tryz.prog Rows.spellsTimesRow.laid W) :
    Calls Tryz.prog 11 args W fun e W' => ∃ v, e = .returned v ∧ Rows.spellsTimesSpec.post enc Tryz.prog Tryz.f11 false true false false W args v W' := by
  have hW' := hW
  obtain ⟨p, q, hA0, hV, rfl, hfz, hnd⟩ := hW
  have hA : DataW.TrodAll enc Tryz.prog W 0 (fun _ => true) true Tryz.f11.params.toList args.toList ds p := hA0
  rw [Tryz.params11] at hA hval hreach
  obtain ⟨v0, vs0, d0, ds0, p0, q0, hargs, rfl, rfl, t0, r0⟩ := trodAll_cons hA
  obtain ⟨v1, vs1, d1, ds1, p1, q1, rfl, rfl, rfl, t1, r1⟩ := trodAll_cons r0
  obtain ⟨rfl, rfl, rfl⟩ := trodAll_nil r1
  obtain rfl : args = #[v0, v1] := by cases args; simp_all
  obtain ⟨rfl, rfl⟩ := trodVars_none hV
  clear hA0
  have fit0 : ∀ x ∈ d0.weights Tryz.prog 68, x ≤ reachBytes := fun x hx => by
    have := List.all_eq_true.1 hreach x (DataW.weights_mem_each (j := 0) (t := 68) rfl rfl x hx)
    simpa using this
  obtain ⟨cs0, rfl, hz0⟩ := okWide_struct Tryz.underlying68 (hval 0 68 v0 rfl rfl)
  have s0 := t0
  obtain ⟨f0, hf0⟩ := t0
  obtain ⟨x0, hcs, h0⟩ := open_termB (show DataW.trod enc Tryz.prog W 0 (fun _ => true) true f0 68 cs0.toList = some (d0, p0) from hf0) fit0
  obtain rfl : cs0 = #[.bool x0.g1, .slice x0.a1 x0.n1 x0.c1, .bool x0.g2, .slice x0.a2 x0.n2 x0.c2, .int .u16 x0.m0, .int .u16 x0.m1, .int .u16 x0.m2, .int .u16 x0.m3] := by rw [← Array.toArray_toList (xs := cs0), hcs]
  clear hcs
  have fit1 : ∀ x ∈ d1.weights Tryz.prog 68, x ≤ reachBytes := fun x hx => by
    have := List.all_eq_true.1 hreach x (DataW.weights_mem_each (j := 1) (t := 68) rfl rfl x hx)
    simpa using this
  obtain ⟨cs1, rfl, hz1⟩ := okWide_struct Tryz.underlying68 (hval 1 68 v1 rfl rfl)
  have s1 := t1
  obtain ⟨f1, hf1⟩ := t1
  obtain ⟨x1, hcs, h1⟩ := open_termB (show DataW.trod enc Tryz.prog W 0 (fun _ => true) true f1 68 cs1.toList = some (d1, p1) from hf1) fit1
  obtain rfl : cs1 = #[.bool x1.g1, .slice x1.a1 x1.n1 x1.c1, .bool x1.g2, .slice x1.a2 x1.n2 x1.c2, .int .u16 x1.m0, .int .u16 x1.m1, .int .u16 x1.m2, .int .u16 x1.m3] := by rw [← Array.toArray_toList (xs := cs1), hcs]
  clear hcs
  have hT := tab_of_laid (r := [("unicode/utf8.acceptRanges", Rows.laid_unicode_utf8_acceptRanges), ("strconv.ErrRange", Rows.laid_strconv_ErrRange), ("strconv.ErrSyntax", Rows.laid_strconv_ErrSyntax), ("unicode/utf8.first", Rows.laid_unicode_utf8_first)]) hL
  obtain ⟨hV, h7⟩ := err_of_laid (r := [("strconv.ErrSyntax", Rows.laid_strconv_ErrSyntax), ("unicode/utf8.first", Rows.laid_unicode_utf8_first)]) hL
  simp only [List.append_nil] at hW'
  refine (SpellsTimes_c W x0 x1 h0.1 h0.2.1 h0.2.2 h1.1 h1.2.1 h1.2.2 hT hV h7).mono fun e W' ⟨he, hb⟩ => ?_
  subst he
  refine ⟨_, rfl, postOfBelow (pa := p0 ++ (p1)) (pv := []) hW' (fun _ _ _ => trodAll_cons_mk (shut_bool Tryz.underlying4 _) trodAll_mk0) (fun sp hsp => ?_) (fun _ _ => rfl) (by simp) hb (ok_one (by kernel_rfl) rfl (okWide_bool_mk Tryz.underlying4 _))⟩
  have hlt : ∀ x ∈ p0 ++ (p1), x.block < W.heap.size := fun x hx => hW'.lt x (by simpa using hx)
  have k0 := WideElems.Trod_stays (P := Tryz.prog) stLaidOut (by kernel_rfl) (of_decide_eq_true (by kernel_rfl)) s0 (fun x hx => hb.same (hlt x (by simp [hx]))) (fun x hx => hsp x (by simp [hx]))
  have k1 := WideElems.Trod_stays (P := Tryz.prog) stLaidOut (by kernel_rfl) (of_decide_eq_true (by kernel_rfl)) s1 (fun x hx => hb.same (hlt x (by simp [hx]))) (fun x hx => hsp x (by simp [hx]))
  have := trodAll_cons_mk k0 (trodAll_cons_mk k1 (trodAll_mk0))
  rw [List.append_nil] at this
  exact this
theorem TimLaid (os : Os) : laidMet Tryz.prog Rows.spellsTimesRow.laid ((slWorld os).forCall (fun _ _ => 0) ⟨#[], #[.agg #[.bool false, .slice none 0 0, .bool false, .slice none 0 0, .int .u16 0, .int .u16 0, .int .u16 0, .int .u16 0], .agg #[.bool false, .slice none 0 0, .bool false, .slice none 0 0, .int .u16 0, .int .u16 0, .int .u16 0, .int .u16 0]], []⟩).memory :=
  laidMet_of_run' 8 (by kernel_rfl) (by kernel_rfl)
theorem TimReads (os : Os) {H : Type} (enc : TypeId × Value → H) : ∃ places, DataW.whole enc Tryz.prog ((slWorld os).forCall (fun _ _ => 0) ⟨#[], #[.agg #[.bool false, .slice none 0 0, .bool false, .slice none 0 0, .int .u16 0, .int .u16 0, .int .u16 0, .int .u16 0], .agg #[.bool false, .slice none 0 0, .bool false, .slice none 0 0, .int .u16 0, .int .u16 0, .int .u16 0, .int .u16 0]], []⟩).memory Tryz.f11.params.toList Rows.spellsTimesSpec.vars false #[Value.agg #[.bool false, .slice none 0 0, .bool false, .slice none 0 0, .int .u16 0, .int .u16 0, .int .u16 0, .int .u16 0], .agg #[.bool false, .slice none 0 0, .bool false, .slice none 0 0, .int .u16 0, .int .u16 0, .int .u16 0, .int .u16 0]].toList 8 = some ([.agg [.agg [.agg [.lit (.bool false), .nil], .agg [.lit (.bool false), .nil]], .agg [.lit (.int .u16 0), .lit (.int .u16 0), .lit (.int .u16 0), .lit (.int .u16 0)]], .agg [.agg [.agg [.lit (.bool false), .nil], .agg [.lit (.bool false), .nil]], .agg [.lit (.int .u16 0), .lit (.int .u16 0), .lit (.int .u16 0), .lit (.int .u16 0)]]], [], places) :=
  ⟨[], by kernel_rfl⟩
set_option maxRecDepth 100000 in
/-- The first form's step. -/
theorem TimLifted (os : Os) (started : os.Started) (H : Type) (enc : TypeId × Value → H) (F : Stop.Interp) :
    ReturnsInHanded {} Tryz.checked os 11 .any ((OpenSpec.ofChange Rows.spellsTimesSpec).preRow enc Tryz.prog Tryz.f11 Rows.spellsTimesRow.domain false Rows.spellsTimesRow.laid) (((OpenSpec.ofChange Rows.spellsTimesSpec).at F).post enc Tryz.prog Tryz.f11 false true false false) := by
  obtain ⟨places, hx⟩ := TimReads os enc
  refine returnsInHanded_of_row (C := Tryz.checked) (s := OpenSpec.ofChange Rows.spellsTimesSpec) stOwn started (by kernel_rfl) Tryz.func11
    (witness_row_at (enc := enc) (C := Tryz.checked) false (slWorld os) #[.agg #[.bool false, .slice none 0 0, .bool false, .slice none 0 0, .int .u16 0, .int .u16 0, .int .u16 0, .int .u16 0], .agg #[.bool false, .slice none 0 0, .bool false, .slice none 0 0, .int .u16 0, .int .u16 0, .int .u16 0, .int .u16 0]] rfl (by kernel_rfl) (by kernel_rfl) (by kernel_rfl)
      (OpenSpec.preRow_of_cond 8 hx (by kernel_rfl) (fun k hk => by cases hk) (by kernel_rfl) (TimLaid os))) ?_
  intro W base args ds gs before hval hW _ _ hreach hL _ _
  exact TimContract H enc W base args ds gs before hval hW hreach hL
end Go.Proofs.YtdamegaedmckbaaGreatDoor
end
section
namespace Go.Proofs.YtdamegaedmckbaaGreatDoor
theorem TimFn : Tryz.pinned.checked.prog.funcNamed Rows.spellsTimesRow.func = some 11 := by kernel_rfl
theorem TimInst : Tryz.f11.isInstance Tryz.pinned.checked.prog Rows.spellsTimesRow.origin Rows.spellsTimesRow.targs := of_decide_eq_true (by kernel_rfl)
theorem TimWrap : Tryz.f11.isWrapper Tryz.pinned.checked.prog Rows.spellsTimesRow.wrapper Rows.spellsTimesRow.mainSum := by unfold Func.isWrapper; first | (rw [if_pos (by decide +kernel)]; kernel_rfl) | (rw [if_neg (by decide +kernel)]; exact ⟨rfl, rfl⟩)
set_option maxHeartbeats 4000000 in
theorem TimClosed : joinedFacts Tryz.pinned.checked.prog 11 Tryz.f11 (OpenSpec.ofChange Rows.spellsTimesSpec).bare Rows.spellsTimesRow = true := by
  unfold joinedFacts
  repeat' with_reducible refine Bool.and_eq_true_iff.2 ⟨?_, ?_⟩
  all_goals as_aux_lemma => kernel_rfl
end Go.Proofs.YtdamegaedmckbaaGreatDoor
end
section
namespace Go.Proofs.YtdamegaedmckbaaGreatDoor
open Go.ChangeShapes Go.WideShapes Go.ChangeAt Go.RowKit

theorem SpellsTimes_said : Rows.SpellsTimesSaid :=
  OpenClaim.holds_of_cond 11 Tryz.f11 rfl rfl rfl rfl rfl rfl rfl ⟨rfl, rfl, rfl, rfl, rfl⟩ rfl rfl rfl rfl rfl TimFn Tryz.func11 TimClosed TimInst TimWrap
    (fun os started H enc _ F => by rw [OpenClaim.pre_eq_preRow]; exact TimLifted os started H enc F)
theorem TimPlain (f : FuncId) (fn : Func) (hf : Tryz.pinned.checked.prog.funcNamed "reckoner/reckonerlaw06.SpellsTimes" = some f) (hfn : Tryz.pinned.checked.prog.funcs[f]? = some fn) :
    true = Tryz.pinned.checked.prog.looks [] ∧ ∀ (j : Nat) t, fn.params[j]? = some t → Tryz.pinned.checked.prog.wantsStandIn t = false := by
  obtain rfl : f = 11 := Option.some.inj ((show Tryz.prog.funcNamed "reckoner/reckonerlaw06.SpellsTimes" = some 11 by kernel_rfl).symm.trans hf) |>.symm
  obtain rfl : fn = Tryz.f11 := (Option.some.inj (Tryz.func11.symm.trans hfn)).symm
  refine ⟨by kernel_rfl, fun j t ht => ?_⟩
  rw [Tryz.params11] at ht
  have := Array.mem_of_getElem? ht
  simp only [List.mem_toArray, List.mem_cons, List.not_mem_nil, or_false] at this
  rcases this with rfl | rfl
  · exact (show Tryz.prog.wantsStandIn 68 = false by kernel_rfl)
  · exact (show Tryz.prog.wantsStandIn 68 = false by kernel_rfl)
/-- The card. -/
theorem SpellsTimes_card : Rows.SpellsTimesCardSaid :=
  Claim7.holds_tied_plain_at .later [] _ _ _ _ SpellsTimes_said (fun _ h => by cases h) (by kernel_rfl) (fun _ h => by cases h) spellsTimes_row_tie rfl ⟨rfl, rfl⟩ (by kernel_rfl) rfl TimPlain (by kernel_rfl)
#print axioms SpellsTimes_card
end Go.Proofs.YtdamegaedmckbaaGreatDoor
end
