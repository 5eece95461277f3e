/- SpellsSums: what the walk gives, as the row asks it. No condition but the variables that the row lists. SpellsSums: the row's closed facts, one by one. No condition. SpellsSums: a text behind another one, with a + between, is the sum of both; with a - the first one less the second one: the statement and its card. No condition but the variables that the row lists, which the card ties. -/
import Derived.Test.YtdamegaedmckbaaGreatDoorX44
import Derived.Test.YtdamegaedmckbaaGreatDoorX40
import Derived.Test.YtdamegaedmckbaaGreatDoorRows
import Derived.JoinedOf
import Derived.JoinedCond
import Derived.KernelRfl
set_option linter.unusedSimpArgs false
set_option linter.unusedVariables false
section
namespace Go.Proofs.YtdamegaedmckbaaGreatDoor
open Go.ChangeShapes Go.WideShapes Go.ChangeAt Go.RowKit

set_option maxRecDepth 100000 in
/-- What the walk gives, for every argument and every world that holds the variables. -/
theorem SmsContract (H : Type) (enc : TypeId × Value → H) (W : World) (base : Nat) (args : Array Value) (ds gs : List (DataW H)) (before : List MemPlace)
    (hval : ∀ (j : Nat) t v, Tryz.f10.params[j]? = some t → args[j]? = some v → Value.okWide Tryz.prog W .any base t v)
    (hW : DataW.Whole enc Tryz.prog Tryz.f10.params.toList Rows.spellsSumsSpec.vars false W args.toList ds gs before)
    (hreach : (DataW.weightsEach Tryz.prog (Tryz.f10.params.toList ++ (OpenSpec.ofChange Rows.spellsSumsSpec).bare.plain.varTypes Tryz.prog) (ds ++ gs)).all (· ≤ reachBytes) = true)
    (hL : laidMetH Tryz.prog Rows.spellsSumsRow.laid W) :
    Calls Tryz.prog 10 args W fun e W' => ∃ v, e = .returned v ∧ Rows.spellsSumsSpec.post enc Tryz.prog Tryz.f10 false true false false W args v W' := by
  have hW' := hW
  obtain ⟨p, q, hA0, hV, rfl, hfz, hnd⟩ := hW
  have hA : DataW.TrodAll enc Tryz.prog W 0 (fun _ => true) true Tryz.f10.params.toList args.toList ds p := hA0
  rw [Tryz.params10] at hA hval hreach
  obtain ⟨v0, vs0, d0, ds0, p0, q0, hargs, rfl, rfl, t0, r0⟩ := trodAll_cons hA
  obtain ⟨v1, vs1, d1, ds1, p1, q1, rfl, rfl, rfl, t1, r1⟩ := trodAll_cons r0
  obtain ⟨rfl, rfl, rfl⟩ := trodAll_nil r1
  obtain rfl : args = #[v0, v1] := by cases args; simp_all
  obtain ⟨rfl, rfl⟩ := trodVars_none hV
  clear hA0
  have fit0 : ∀ x ∈ d0.weights Tryz.prog 9, x ≤ reachBytes := fun x hx => by
    have := List.all_eq_true.1 hreach x (DataW.weights_mem_each (j := 0) (t := 9) rfl rfl x hx)
    simpa using this
  obtain ⟨b0, rfl⟩ := okWide_string Tryz.underlying9 (hval 0 9 v0 rfl rfl)
  have s0 := t0
  obtain ⟨f0, hf0⟩ := t0
  obtain ⟨b', hcs, hd, _⟩ := DataW.trod_string Tryz.underlying9 hf0
  have hcs' : [Value.string b0] = [Value.string b'] := hcs
  simp only [List.cons.injEq, Value.string.injEq, and_true] at hcs'
  subst hcs'
  clear hcs
  obtain ⟨x0, rfl⟩ : ∃ x : List UInt8, b0 = ⟨x.toArray⟩ := ⟨b0.data.toList, by cases b0; rfl⟩
  have hd' : d0 = .lit (.string x0) := congrArg Prod.fst hd
  have h0 : x0.length ≤ 140737488351232 := by
    have := fit0 x0.length (by rw [hd', DataW.weights]; exact List.mem_singleton.2 rfl)
    rw [reach_val] at this
    exact this
  clear hd hd'
  have fit1 : ∀ x ∈ d1.weights Tryz.prog 9, x ≤ reachBytes := fun x hx => by
    have := List.all_eq_true.1 hreach x (DataW.weights_mem_each (j := 1) (t := 9) rfl rfl x hx)
    simpa using this
  obtain ⟨b1, rfl⟩ := okWide_string Tryz.underlying9 (hval 1 9 v1 rfl rfl)
  have s1 := t1
  obtain ⟨f1, hf1⟩ := t1
  obtain ⟨b', hcs, hd, _⟩ := DataW.trod_string Tryz.underlying9 hf1
  have hcs' : [Value.string b1] = [Value.string b'] := hcs
  simp only [List.cons.injEq, Value.string.injEq, and_true] at hcs'
  subst hcs'
  clear hcs
  obtain ⟨x1, rfl⟩ : ∃ x : List UInt8, b1 = ⟨x.toArray⟩ := ⟨b1.data.toList, by cases b1; rfl⟩
  have hd' : d1 = .lit (.string x1) := congrArg Prod.fst hd
  have h1 : x1.length ≤ 140737488351232 := by
    have := fit1 x1.length (by rw [hd', DataW.weights]; exact List.mem_singleton.2 rfl)
    rw [reach_val] at this
    exact this
  clear hd hd'
  have hT := tab_of_laid (r := [("unicode/utf8.acceptRanges", Rows.laid_unicode_utf8_acceptRanges), ("strconv.ErrRange", Rows.laid_strconv_ErrRange), ("strconv.ErrSyntax", Rows.laid_strconv_ErrSyntax), ("unicode/utf8.first", Rows.laid_unicode_utf8_first)]) hL
  obtain ⟨hV, h7⟩ := err_of_laid (r := [("strconv.ErrSyntax", Rows.laid_strconv_ErrSyntax), ("unicode/utf8.first", Rows.laid_unicode_utf8_first)]) hL
  simp only [List.append_nil] at hW'
  refine (SpellsSums_c W x0 x1 h0 h1 hT hV h7).mono fun e W' ⟨he, hb⟩ => ?_
  subst he
  refine ⟨_, rfl, postOfBelow (pa := p0 ++ (p1)) (pv := []) hW' (fun _ _ _ => trodAll_cons_mk (shut_bool Tryz.underlying4 _) trodAll_mk0) (fun sp hsp => ?_) (fun _ _ => rfl) (by simp) hb (ok_one (by kernel_rfl) rfl (okWide_bool_mk Tryz.underlying4 _))⟩
  have hlt : ∀ x ∈ p0 ++ (p1), x.block < W.heap.size := fun x hx => hW'.lt x (by simpa using hx)
  have k0 := WideElems.Trod_stays (P := Tryz.prog) stLaidOut (by kernel_rfl) (of_decide_eq_true (by kernel_rfl)) s0 (fun x hx => hb.same (hlt x (by simp [hx]))) (fun x hx => hsp x (by simp [hx]))
  have k1 := WideElems.Trod_stays (P := Tryz.prog) stLaidOut (by kernel_rfl) (of_decide_eq_true (by kernel_rfl)) s1 (fun x hx => hb.same (hlt x (by simp [hx]))) (fun x hx => hsp x (by simp [hx]))
  have := trodAll_cons_mk k0 (trodAll_cons_mk k1 (trodAll_mk0))
  rw [List.append_nil] at this
  exact this
theorem SmsLaid (os : Os) : laidMet Tryz.prog Rows.spellsSumsRow.laid ((slWorld os).forCall (fun _ _ => 0) ⟨#[], #[.string ⟨#[]⟩, .string ⟨#[]⟩], []⟩).memory :=
  laidMet_of_run' 8 (by kernel_rfl) (by kernel_rfl)
theorem SmsReads (os : Os) {H : Type} (enc : TypeId × Value → H) : ∃ places, DataW.whole enc Tryz.prog ((slWorld os).forCall (fun _ _ => 0) ⟨#[], #[.string ⟨#[]⟩, .string ⟨#[]⟩], []⟩).memory Tryz.f10.params.toList Rows.spellsSumsSpec.vars false #[Value.string ⟨#[]⟩, .string ⟨#[]⟩].toList 8 = some ([.lit (.string []), .lit (.string [])], [], places) :=
  ⟨[], by kernel_rfl⟩
set_option maxRecDepth 100000 in
/-- The first form's step. -/
theorem SmsLifted (os : Os) (started : os.Started) (H : Type) (enc : TypeId × Value → H) (F : Stop.Interp) :
    ReturnsInHanded {} Tryz.checked os 10 .any ((OpenSpec.ofChange Rows.spellsSumsSpec).preRow enc Tryz.prog Tryz.f10 Rows.spellsSumsRow.domain false Rows.spellsSumsRow.laid) (((OpenSpec.ofChange Rows.spellsSumsSpec).at F).post enc Tryz.prog Tryz.f10 false true false false) := by
  obtain ⟨places, hx⟩ := SmsReads os enc
  refine returnsInHanded_of_row (C := Tryz.checked) (s := OpenSpec.ofChange Rows.spellsSumsSpec) stOwn started (by kernel_rfl) Tryz.func10
    (witness_row_at (enc := enc) (C := Tryz.checked) false (slWorld os) #[.string ⟨#[]⟩, .string ⟨#[]⟩] rfl (by kernel_rfl) (by kernel_rfl) (by kernel_rfl)
      (OpenSpec.preRow_of_cond 8 hx (by kernel_rfl) (fun k hk => by cases hk) (by kernel_rfl) (SmsLaid os))) ?_
  intro W base args ds gs before hval hW _ _ hreach hL _ _
  exact SmsContract H enc W base args ds gs before hval hW hreach hL
end Go.Proofs.YtdamegaedmckbaaGreatDoor
end
section
namespace Go.Proofs.YtdamegaedmckbaaGreatDoor
theorem SmsFn : Tryz.pinned.checked.prog.funcNamed Rows.spellsSumsRow.func = some 10 := by kernel_rfl
theorem SmsInst : Tryz.f10.isInstance Tryz.pinned.checked.prog Rows.spellsSumsRow.origin Rows.spellsSumsRow.targs := of_decide_eq_true (by kernel_rfl)
theorem SmsWrap : Tryz.f10.isWrapper Tryz.pinned.checked.prog Rows.spellsSumsRow.wrapper Rows.spellsSumsRow.mainSum := by unfold Func.isWrapper; first | (rw [if_pos (by decide +kernel)]; kernel_rfl) | (rw [if_neg (by decide +kernel)]; exact ⟨rfl, rfl⟩)
set_option maxHeartbeats 4000000 in
theorem SmsClosed : joinedFacts Tryz.pinned.checked.prog 10 Tryz.f10 (OpenSpec.ofChange Rows.spellsSumsSpec).bare Rows.spellsSumsRow = true := by
  unfold joinedFacts
  repeat' with_reducible refine Bool.and_eq_true_iff.2 ⟨?_, ?_⟩
  all_goals as_aux_lemma => kernel_rfl
end Go.Proofs.YtdamegaedmckbaaGreatDoor
end
section
namespace Go.Proofs.YtdamegaedmckbaaGreatDoor
open Go.ChangeShapes Go.WideShapes Go.ChangeAt Go.RowKit

theorem SpellsSums_said : Rows.SpellsSumsSaid :=
  OpenClaim.holds_of_cond 10 Tryz.f10 rfl rfl rfl rfl rfl rfl rfl ⟨rfl, rfl, rfl, rfl, rfl⟩ rfl rfl rfl rfl rfl SmsFn Tryz.func10 SmsClosed SmsInst SmsWrap
    (fun os started H enc _ F => by rw [OpenClaim.pre_eq_preRow]; exact SmsLifted os started H enc F)
theorem SmsPlain (f : FuncId) (fn : Func) (hf : Tryz.pinned.checked.prog.funcNamed "reckoner/reckonerlaw06.SpellsSums" = some f) (hfn : Tryz.pinned.checked.prog.funcs[f]? = some fn) :
    true = Tryz.pinned.checked.prog.looks [] ∧ ∀ (j : Nat) t, fn.params[j]? = some t → Tryz.pinned.checked.prog.wantsStandIn t = false := by
  obtain rfl : f = 10 := Option.some.inj ((show Tryz.prog.funcNamed "reckoner/reckonerlaw06.SpellsSums" = some 10 by kernel_rfl).symm.trans hf) |>.symm
  obtain rfl : fn = Tryz.f10 := (Option.some.inj (Tryz.func10.symm.trans hfn)).symm
  refine ⟨by kernel_rfl, fun j t ht => ?_⟩
  rw [Tryz.params10] at ht
  have := Array.mem_of_getElem? ht
  simp only [List.mem_toArray, List.mem_cons, List.not_mem_nil, or_false] at this
  rcases this with rfl | rfl
  · exact (show Tryz.prog.wantsStandIn 9 = false by kernel_rfl)
  · exact (show Tryz.prog.wantsStandIn 9 = false by kernel_rfl)
/-- The card. -/
theorem SpellsSums_card : Rows.SpellsSumsCardSaid :=
  Claim7.holds_tied_plain_at .later [] _ _ _ _ SpellsSums_said (fun _ h => by cases h) (by kernel_rfl) (fun _ h => by cases h) spellsSums_row_tie rfl ⟨rfl, rfl⟩ (by kernel_rfl) rfl SmsPlain (by kernel_rfl)
#print axioms SpellsSums_card
end Go.Proofs.YtdamegaedmckbaaGreatDoor
end
