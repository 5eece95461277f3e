/- SpellsReads: the sum of any text is exactly the documented one, or it is refused; the answers' lists lie apart. -/
import Derived.Test.YtdamegaedmckbaaGreatDoorQP47
import Derived.Test.YtdamegaedmckbaaGreatDoorQP48
set_option linter.unusedSimpArgs false
set_option linter.unusedVariables false
set_option maxRecDepth 100000
set_option maxHeartbeats 4000000
section
namespace Go.Proofs.YtdamegaedmckbaaGreatDoor
open Go.ChangeShapes Go.WideShapes Go.ChangeAt Go.RowKit
theorem SpellsReads_said : Rows.SpellsReadsSaid :=
 OpenClaim.holds_of_cond 4 Tryz.f4 rfl rfl rfl rfl rfl rfl rfl ⟨rfl, rfl, rfl, rfl, rfl⟩ rfl rfl rfl rfl rfl gQ Tryz.func4 Yb cX cJ
  (fun os started H enc _ F => by rw [OpenClaim.pre_eq_preRow]; exact W8 os started H enc F)
theorem Zq (f : FuncId) (fn : Func) (hf : Tryz.pinned.checked.prog.funcNamed "reckoner/reckonerlaw06.SpellsReads" = some f) (hfn : Tryz.pinned.checked.prog.funcs[f]? = some fn) :
  true = Tryz.pinned.checked.prog.looks [] ∧ ∀ (j : Nat) t, fn.params[j]? = some t → Tryz.pinned.checked.prog.wantsStandIn t = false := by
 obtain rfl : f = 4 := Option.some.inj ((show Tryz.prog.funcNamed "reckoner/reckonerlaw06.SpellsReads" = some 4 by kernel_rfl).symm.trans hf) |>.symm
 obtain rfl : fn = Tryz.f4 := (Option.some.inj (Tryz.func4.symm.trans hfn)).symm
 refine ⟨by kernel_rfl, fun j t ht => ?_⟩
 rw [Tryz.params4] at ht
 obtain rfl : t = 9 := by simpa using Array.mem_of_getElem? ht
 exact (show Tryz.prog.wantsStandIn 9 = false by kernel_rfl)
theorem SpellsReads_card : Rows.SpellsReadsCardSaid :=
 Claim7.holds_tied_plain_at .later [] _ _ _ _ SpellsReads_said (fun _ h => by cases h) (by as_aux_lemma => kernel_rfl) (fun _ h => by cases h) spellsReads_row_tie rfl ⟨rfl, rfl⟩ (by as_aux_lemma => kernel_rfl) rfl Zq (by as_aux_lemma => kernel_rfl)
#print axioms SpellsReads_card
end Go.Proofs.YtdamegaedmckbaaGreatDoor
end
