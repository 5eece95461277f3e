/- SpellsLong: the row's closed facts, one by one. No condition. -/
import Derived.Test.YtdamegaedmckbaaGreatDoorRows
import Derived.JoinedOf
import Derived.JoinedCond
import Derived.KernelRfl
import Derived.Test.YtdamegaedmckbaaGreatDoorQTZ
set_option linter.unusedSimpArgs false
set_option linter.unusedVariables false
set_option maxRecDepth 100000
set_option maxHeartbeats 4000000
section
namespace Go.Proofs.YtdamegaedmckbaaGreatDoor
theorem slFn : Tryz.pinned.checked.prog.funcNamed Rows.spellsLongRow.func = some 5 := by kernel_rfl
theorem slInst : Tryz.f5.isInstance Tryz.pinned.checked.prog Rows.spellsLongRow.origin Rows.spellsLongRow.targs := of_decide_eq_true qG
theorem slWrap : Tryz.f5.isWrapper Tryz.pinned.checked.prog Rows.spellsLongRow.wrapper Rows.spellsLongRow.mainSum := by unfold Func.isWrapper; first | (rw [if_pos (by decide +kernel)]; kernel_rfl) | (rw [if_neg (by decide +kernel)]; exact ⟨rfl, rfl⟩)
theorem slClosed : joinedFacts Tryz.pinned.checked.prog 5 Tryz.f5 (OpenSpec.ofChange Rows.spellsLongSpec).bare Rows.spellsLongRow = true := by
 unfold joinedFacts
 repeat' with_reducible refine Bool.and_eq_true_iff.2 ⟨?_, ?_⟩
 all_goals as_aux_lemma => kernel_rfl
end Go.Proofs.YtdamegaedmckbaaGreatDoor
end
