/- SpellsLong: a text near the most bytes that there may be is read exactly as documented, or it is refused: the statement and its card. No condition but the variables that the row lists, which the card ties. -/
import Derived.Test.YtdamegaedmckbaaGreatDoorQT47
import Derived.Test.YtdamegaedmckbaaGreatDoorQT48
import Derived.Test.YtdamegaedmckbaaGreatDoorQTZ
set_option linter.unusedSimpArgs false
set_option linter.unusedVariables false
set_option maxRecDepth 100000
set_option maxHeartbeats 4000000
section
namespace Go.Proofs.YtdamegaedmckbaaGreatDoor
open Go.ChangeShapes Go.WideShapes Go.ChangeAt Go.RowKit
theorem SpellsLong_said : Rows.SpellsLongSaid :=
 OpenClaim.holds_of_cond 5 Tryz.f5 rfl rfl rfl rfl rfl rfl rfl ⟨rfl, rfl, rfl, rfl, rfl⟩ rfl rfl rfl rfl rfl slFn Tryz.func5 slClosed slInst slWrap
  (fun os started H enc _ F => by rw [OpenClaim.pre_eq_preRow]; exact slLifted os started H enc F)
theorem slPlain (f : FuncId) (fn : Func) (hf : Tryz.pinned.checked.prog.funcNamed "reckoner/reckonerlaw06.SpellsLong" = some f) (hfn : Tryz.pinned.checked.prog.funcs[f]? = some fn) :
  true = Tryz.pinned.checked.prog.looks [] ∧ ∀ (j : Nat) t, fn.params[j]? = some t → Tryz.pinned.checked.prog.wantsStandIn t = false := by
 obtain rfl : f = 5 := Option.some.inj ((show Tryz.prog.funcNamed "reckoner/reckonerlaw06.SpellsLong" = some 5 by kernel_rfl).symm.trans hf) |>.symm
 obtain rfl : fn = Tryz.f5 := (Option.some.inj (Tryz.func5.symm.trans hfn)).symm
 refine ⟨by kernel_rfl, fun j t ht => ?_⟩
 rw [Tryz.params5] at ht
 have := Array.mem_of_getElem? ht
 simp only [List.mem_toArray, List.mem_cons, List.not_mem_nil, or_false] at this
 rcases this with rfl | rfl | rfl
 ·exact (show Tryz.prog.wantsStandIn 3 = false by kernel_rfl)
 ·exact (show Tryz.prog.wantsStandIn 9 = false by kernel_rfl)
 ·exact (show Tryz.prog.wantsStandIn 9 = false by kernel_rfl)
theorem SpellsLong_card : Rows.SpellsLongCardSaid :=
 Claim7.holds_tied_plain_at .later [] _ _ _ _ SpellsLong_said (fun _ h => by cases h) qG (fun _ h => by cases h) spellsLong_row_tie rfl ⟨rfl, rfl⟩ qG rfl slPlain qG
#print axioms SpellsLong_card
end Go.Proofs.YtdamegaedmckbaaGreatDoor
end
