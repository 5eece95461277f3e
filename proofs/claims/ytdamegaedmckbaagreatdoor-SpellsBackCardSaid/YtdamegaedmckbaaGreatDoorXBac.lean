/- SpellsBack: what the walk gives, as the row asks it. No condition but the variables that the row lists. SpellsBack: the row's closed facts, one by one. No condition. SpellsBack: a sum's text is read as it, if its digits and its powers are not too many; what is read, and written, is read as the same, and written so: the statement and its card. No condition but the variables that the row lists, which the card ties. -/
import Derived.Test.YtdamegaedmckbaaGreatDoorX45
import Derived.Test.YtdamegaedmckbaaGreatDoorX40
import Derived.Test.YtdamegaedmckbaaGreatDoorRows
import Derived.JoinedOf
import Derived.JoinedCond
import Derived.KernelRfl
set_option linter.unusedSimpArgs false
set_option linter.unusedVariables false
section
namespace Go.Proofs.YtdamegaedmckbaaGreatDoor
open Go.ChangeShapes Go.WideShapes Go.ChangeAt Go.RowKit

set_option maxRecDepth 100000 in
/-- What the walk gives, for every argument and every world that holds the variables. -/
theorem BacContract (H : Type) (enc : TypeId × Value → H) (W : World) (base : Nat) (args : Array Value) (ds gs : List (DataW H)) (before : List MemPlace)
    (hval : ∀ (j : Nat) t v, Tryz.f6.params[j]? = some t → args[j]? = some v → Value.okWide Tryz.prog W .any base t v)
    (hW : DataW.Whole enc Tryz.prog Tryz.f6.params.toList Rows.spellsBackSpec.vars false W args.toList ds gs before)
    (hreach : (DataW.weightsEach Tryz.prog (Tryz.f6.params.toList ++ (OpenSpec.ofChange Rows.spellsBackSpec).bare.plain.varTypes Tryz.prog) (ds ++ gs)).all (· ≤ reachBytes) = true)
    (hL : laidMetH Tryz.prog Rows.spellsBackRow.laid W) :
    Calls Tryz.prog 6 args W fun e W' => ∃ v, e = .returned v ∧ Rows.spellsBackSpec.post enc Tryz.prog Tryz.f6 false true false false W args v W' := by
  have hW' := hW
  obtain ⟨p, q, hA0, hV, rfl, hfz, hnd⟩ := hW
  have hA : DataW.TrodAll enc Tryz.prog W 0 (fun _ => true) true Tryz.f6.params.toList args.toList ds p := hA0
  rw [Tryz.params6] at hA hval hreach
  obtain ⟨v0, vs0, d0, ds0, p0, q0, hargs, rfl, rfl, t0, r0⟩ := trodAll_cons hA
  obtain ⟨v1, vs1, d1, ds1, p1, q1, rfl, rfl, rfl, t1, r1⟩ := trodAll_cons r0
  obtain ⟨rfl, rfl, rfl⟩ := trodAll_nil r1
  obtain rfl : args = #[v0, v1] := by cases args; simp_all
  obtain ⟨rfl, rfl⟩ := trodVars_none hV
  clear hA0
  have fit0 : ∀ x ∈ d0.weights Tryz.prog 23, x ≤ reachBytes := fun x hx => by
    have := List.all_eq_true.1 hreach x (DataW.weights_mem_each (j := 0) (t := 23) rfl rfl x hx)
    simpa using this
  obtain ⟨a0, n0, c0, rfl⟩ := okWide_slice Tryz.underlying23 (hval 0 23 v0 rfl rfl)
  have s0 := t0
  obtain ⟨f0, hf0⟩ := t0
  obtain ⟨a', n', c', x0, hcs, h0⟩ := open_poly hf0 fit0
  have hcs' : [Value.slice a0 n0 c0] = [Value.slice a' n' c'] := hcs
  simp only [List.cons.injEq, Value.slice.injEq, and_true] at hcs'
  obtain ⟨rfl, rfl, rfl⟩ := hcs'
  clear hcs
  have hnl0 : a0 = none → c0 = 0 := open_nl (show DataW.trod enc Tryz.prog W 0 (fun _ => true) true f0 23 [.slice a0 n0 c0] = some (d0, p0) from hf0)
  have fit1 : ∀ x ∈ d1.weights Tryz.prog 9, x ≤ reachBytes := fun x hx => by
    have := List.all_eq_true.1 hreach x (DataW.weights_mem_each (j := 1) (t := 9) rfl rfl x hx)
    simpa using this
  obtain ⟨b1, rfl⟩ := okWide_string Tryz.underlying9 (hval 1 9 v1 rfl rfl)
  have s1 := t1
  obtain ⟨f1, hf1⟩ := t1
  obtain ⟨b', hcs, hd, _⟩ := DataW.trod_string Tryz.underlying9 hf1
  have hcs' : [Value.string b1] = [Value.string b'] := hcs
  simp only [List.cons.injEq, Value.string.injEq, and_true] at hcs'
  subst hcs'
  clear hcs
  obtain ⟨x1, rfl⟩ : ∃ x : List UInt8, b1 = ⟨x.toArray⟩ := ⟨b1.data.toList, by cases b1; rfl⟩
  have hd' : d1 = .lit (.string x1) := congrArg Prod.fst hd
  have h1 : x1.length ≤ 140737488351232 := by
    have := fit1 x1.length (by rw [hd', DataW.weights]; exact List.mem_singleton.2 rfl)
    rw [reach_val] at this
    exact this
  clear hd hd'
  have hT := tab_of_laid (r := [("unicode/utf8.acceptRanges", Rows.laid_unicode_utf8_acceptRanges), ("strconv.ErrRange", Rows.laid_strconv_ErrRange), ("strconv.ErrSyntax", Rows.laid_strconv_ErrSyntax), ("unicode/utf8.first", Rows.laid_unicode_utf8_first)]) hL
  obtain ⟨hV, h7⟩ := err_of_laid (r := [("strconv.ErrSyntax", Rows.laid_strconv_ErrSyntax), ("unicode/utf8.first", Rows.laid_unicode_utf8_first)]) hL
  simp only [List.append_nil] at hW'
  refine (SpellsBack_c W a0 n0 c0 x0 h0 hnl0 x1 h1 hT hV h7).mono fun e W' ⟨he, hb⟩ => ?_
  subst he
  refine ⟨_, rfl, postOfBelow (pa := p0 ++ (p1)) (pv := []) hW' (fun _ _ _ => trodAll_cons_mk (shut_bool Tryz.underlying4 _) trodAll_mk0) (fun sp hsp => ?_) (fun _ _ => rfl) (by simp) hb (ok_one (by kernel_rfl) rfl (okWide_bool_mk Tryz.underlying4 _))⟩
  have hlt : ∀ x ∈ p0 ++ (p1), x.block < W.heap.size := fun x hx => hW'.lt x (by simpa using hx)
  have k0 := WideElems.Trod_stays (P := Tryz.prog) stLaidOut (by kernel_rfl) (of_decide_eq_true (by kernel_rfl)) s0 (fun x hx => hb.same (hlt x (by simp [hx]))) (fun x hx => hsp x (by simp [hx]))
  have k1 := WideElems.Trod_stays (P := Tryz.prog) stLaidOut (by kernel_rfl) (of_decide_eq_true (by kernel_rfl)) s1 (fun x hx => hb.same (hlt x (by simp [hx]))) (fun x hx => hsp x (by simp [hx]))
  have := trodAll_cons_mk k0 (trodAll_cons_mk k1 (trodAll_mk0))
  rw [List.append_nil] at this
  exact this
theorem BacLaid (os : Os) : laidMet Tryz.prog Rows.spellsBackRow.laid ((slWorld os).forCall (fun _ _ => 0) ⟨#[], #[.slice none 0 0, .string ⟨#[]⟩], []⟩).memory :=
  laidMet_of_run' 8 (by kernel_rfl) (by kernel_rfl)
theorem BacReads (os : Os) {H : Type} (enc : TypeId × Value → H) : ∃ places, DataW.whole enc Tryz.prog ((slWorld os).forCall (fun _ _ => 0) ⟨#[], #[.slice none 0 0, .string ⟨#[]⟩], []⟩).memory Tryz.f6.params.toList Rows.spellsBackSpec.vars false #[Value.slice none 0 0, .string ⟨#[]⟩].toList 8 = some ([.nil, .lit (.string [])], [], places) :=
  ⟨[], by kernel_rfl⟩
set_option maxRecDepth 100000 in
/-- The first form's step. -/
theorem BacLifted (os : Os) (started : os.Started) (H : Type) (enc : TypeId × Value → H) (F : Stop.Interp) :
    ReturnsInHanded {} Tryz.checked os 6 .any ((OpenSpec.ofChange Rows.spellsBackSpec).preRow enc Tryz.prog Tryz.f6 Rows.spellsBackRow.domain false Rows.spellsBackRow.laid) (((OpenSpec.ofChange Rows.spellsBackSpec).at F).post enc Tryz.prog Tryz.f6 false true false false) := by
  obtain ⟨places, hx⟩ := BacReads os enc
  refine returnsInHanded_of_row (C := Tryz.checked) (s := OpenSpec.ofChange Rows.spellsBackSpec) stOwn started (by kernel_rfl) Tryz.func6
    (witness_row_at (enc := enc) (C := Tryz.checked) false (slWorld os) #[.slice none 0 0, .string ⟨#[]⟩] rfl (by kernel_rfl) (by kernel_rfl) (by kernel_rfl)
      (OpenSpec.preRow_of_cond 8 hx (by kernel_rfl) (fun k hk => by cases hk) (by kernel_rfl) (BacLaid os))) ?_
  intro W base args ds gs before hval hW _ _ hreach hL _ _
  exact BacContract H enc W base args ds gs before hval hW hreach hL
end Go.Proofs.YtdamegaedmckbaaGreatDoor
end
section
namespace Go.Proofs.YtdamegaedmckbaaGreatDoor
theorem BacFn : Tryz.pinned.checked.prog.funcNamed Rows.spellsBackRow.func = some 6 := by kernel_rfl
theorem BacInst : Tryz.f6.isInstance Tryz.pinned.checked.prog Rows.spellsBackRow.origin Rows.spellsBackRow.targs := of_decide_eq_true (by kernel_rfl)
theorem BacWrap : Tryz.f6.isWrapper Tryz.pinned.checked.prog Rows.spellsBackRow.wrapper Rows.spellsBackRow.mainSum := by unfold Func.isWrapper; first | (rw [if_pos (by decide +kernel)]; kernel_rfl) | (rw [if_neg (by decide +kernel)]; exact ⟨rfl, rfl⟩)
set_option maxHeartbeats 4000000 in
theorem BacClosed : joinedFacts Tryz.pinned.checked.prog 6 Tryz.f6 (OpenSpec.ofChange Rows.spellsBackSpec).bare Rows.spellsBackRow = true := by
  unfold joinedFacts
  repeat' with_reducible refine Bool.and_eq_true_iff.2 ⟨?_, ?_⟩
  all_goals as_aux_lemma => kernel_rfl
end Go.Proofs.YtdamegaedmckbaaGreatDoor
end
section
namespace Go.Proofs.YtdamegaedmckbaaGreatDoor
open Go.ChangeShapes Go.WideShapes Go.ChangeAt Go.RowKit

theorem SpellsBack_said : Rows.SpellsBackSaid :=
  OpenClaim.holds_of_cond 6 Tryz.f6 rfl rfl rfl rfl rfl rfl rfl ⟨rfl, rfl, rfl, rfl, rfl⟩ rfl rfl rfl rfl rfl BacFn Tryz.func6 BacClosed BacInst BacWrap
    (fun os started H enc _ F => by rw [OpenClaim.pre_eq_preRow]; exact BacLifted os started H enc F)
theorem BacPlain (f : FuncId) (fn : Func) (hf : Tryz.pinned.checked.prog.funcNamed "reckoner/reckonerlaw06.SpellsBack" = some f) (hfn : Tryz.pinned.checked.prog.funcs[f]? = some fn) :
    true = Tryz.pinned.checked.prog.looks [] ∧ ∀ (j : Nat) t, fn.params[j]? = some t → Tryz.pinned.checked.prog.wantsStandIn t = false := by
  obtain rfl : f = 6 := Option.some.inj ((show Tryz.prog.funcNamed "reckoner/reckonerlaw06.SpellsBack" = some 6 by kernel_rfl).symm.trans hf) |>.symm
  obtain rfl : fn = Tryz.f6 := (Option.some.inj (Tryz.func6.symm.trans hfn)).symm
  refine ⟨by kernel_rfl, fun j t ht => ?_⟩
  rw [Tryz.params6] at ht
  have := Array.mem_of_getElem? ht
  simp only [List.mem_toArray, List.mem_cons, List.not_mem_nil, or_false] at this
  rcases this with rfl | rfl
  · exact (show Tryz.prog.wantsStandIn 23 = false by kernel_rfl)
  · exact (show Tryz.prog.wantsStandIn 9 = false by kernel_rfl)
/-- The card. -/
theorem SpellsBack_card : Rows.SpellsBackCardSaid :=
  Claim7.holds_tied_plain_at .later [] _ _ _ _ SpellsBack_said (fun _ h => by cases h) (by kernel_rfl) (fun _ h => by cases h) spellsBack_row_tie rfl ⟨rfl, rfl⟩ (by kernel_rfl) rfl BacPlain (by kernel_rfl)
#print axioms SpellsBack_card
end Go.Proofs.YtdamegaedmckbaaGreatDoor
end
