/- WorthsField: the row's closed facts, one by one. -/
import Derived.Test.YtnnhcbeiogaknaaGreatDoorQVZ
set_option linter.unusedSimpArgs false
set_option linter.unusedVariables false
set_option maxRecDepth 100000
set_option maxHeartbeats 4000000
section
namespace Go.Proofs.YtnnhcbeiogaknaaGreatDoor
theorem wfFn:Tryz.pinned.checked.prog.funcNamed Rows.worthsFieldUptoRow.func=some 5:=by kernel_rfl
theorem Abl:Tryz.f5.isInstance Tryz.pinned.checked.prog Rows.worthsFieldUptoRow.origin Rows.worthsFieldUptoRow.targs:=of_decide_eq_true qC
theorem Aao:Tryz.f5.isWrapper Tryz.pinned.checked.prog Rows.worthsFieldUptoRow.wrapper Rows.worthsFieldUptoRow.mainSum:=by unfold Func.isWrapper;first|(rw [if_pos (by decide +kernel)];kernel_rfl)|(rw [if_neg (by decide +kernel)];exact ⟨rfl,rfl⟩)
theorem oE:joinedFacts Tryz.pinned.checked.prog 5 Tryz.f5 (Rows.OpenSpec.upto Rows.worthsFieldSpec).bare Rows.worthsFieldUptoRow=true:=by
 unfold joinedFacts
 repeat' with_reducible refine Bool.and_eq_true_iff.2 ⟨?_,?_⟩
 all_goals as_aux_lemma=>kernel_rfl
end Go.Proofs.YtnnhcbeiogaknaaGreatDoor
end
