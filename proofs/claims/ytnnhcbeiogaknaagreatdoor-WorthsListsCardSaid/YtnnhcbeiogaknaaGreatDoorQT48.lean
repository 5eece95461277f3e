/- WorthsLists: the row's closed facts, one by one. -/
import Derived.Test.YtnnhcbeiogaknaaGreatDoorQTZ
set_option linter.unusedSimpArgs false
set_option linter.unusedVariables false
set_option maxRecDepth 100000
set_option maxHeartbeats 4000000
section
namespace Go.Proofs.YtnnhcbeiogaknaaGreatDoor
theorem zQ:Tryz.pinned.checked.prog.funcNamed Rows.worthsListsRow.func=some 6:=by kernel_rfl
theorem wC:Tryz.f6.isInstance Tryz.pinned.checked.prog Rows.worthsListsRow.origin Rows.worthsListsRow.targs:=of_decide_eq_true qC
theorem uX:Tryz.f6.isWrapper Tryz.pinned.checked.prog Rows.worthsListsRow.wrapper Rows.worthsListsRow.mainSum:=by unfold Func.isWrapper;first|(rw [if_pos (by decide +kernel)];kernel_rfl)|(rw [if_neg (by decide +kernel)];exact ⟨rfl,rfl⟩)
theorem iC:joinedFacts Tryz.pinned.checked.prog 6 Tryz.f6 (OpenSpec.ofChange Rows.worthsListsSpec).bare Rows.worthsListsRow=true:=by
 unfold joinedFacts
 repeat' with_reducible refine Bool.and_eq_true_iff.2 ⟨?_,?_⟩
 all_goals as_aux_lemma=>kernel_rfl
end Go.Proofs.YtnnhcbeiogaknaaGreatDoor
end
