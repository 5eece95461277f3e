/- SpellsReads: the row's closed facts, one by one. -/
import Derived.Test.YtdamegaedmckbaaGreatDoorQPZ
set_option linter.unusedSimpArgs false
set_option linter.unusedVariables false
set_option maxRecDepth 100000
set_option maxHeartbeats 4000000
section
namespace Go.Proofs.YtdamegaedmckbaaGreatDoor
theorem gQ : Tryz.pinned.checked.prog.funcNamed Rows.spellsReadsRow.func = some 4 := by kernel_rfl
theorem cX : Tryz.f4.isInstance Tryz.pinned.checked.prog Rows.spellsReadsRow.origin Rows.spellsReadsRow.targs := of_decide_eq_true qG
theorem cJ : Tryz.f4.isWrapper Tryz.pinned.checked.prog Rows.spellsReadsRow.wrapper Rows.spellsReadsRow.mainSum := by unfold Func.isWrapper; first | (rw [if_pos (by decide +kernel)]; kernel_rfl) | (rw [if_neg (by decide +kernel)]; exact ⟨rfl, rfl⟩)
theorem Yb : joinedFacts Tryz.pinned.checked.prog 4 Tryz.f4 (OpenSpec.ofChange Rows.spellsReadsSpec).bare Rows.spellsReadsRow = true := by
 unfold joinedFacts
 repeat' with_reducible refine Bool.and_eq_true_iff.2 ⟨?_, ?_⟩
 all_goals as_aux_lemma => kernel_rfl
end Go.Proofs.YtdamegaedmckbaaGreatDoor
end
