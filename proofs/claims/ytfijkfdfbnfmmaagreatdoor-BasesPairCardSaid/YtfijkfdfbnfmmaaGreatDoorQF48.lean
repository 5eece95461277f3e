/- BasesPair: the row's closed facts, one by one. -/
import Derived.Test.YtfijkfdfbnfmmaaGreatDoorQFZ
set_option linter.unusedSimpArgs false
set_option linter.unusedVariables false
set_option maxRecDepth 100000
set_option maxHeartbeats 4000000
section
namespace Go.Proofs.YtfijkfdfbnfmmaaGreatDoor
open Proofs.Tryz
theorem bpFn:Tryz.pinned.checked.prog.funcNamed Rows.basesPairRow.func=some 3:=qE
theorem yF:Tryz.f3.isInstance Tryz.pinned.checked.prog Rows.basesPairRow.origin Rows.basesPairRow.targs:=of_decide_eq_true qE
theorem yV:Tryz.f3.isWrapper Tryz.pinned.checked.prog Rows.basesPairRow.wrapper Rows.basesPairRow.mainSum:=by unfold Func.isWrapper;first|(rw [if_pos (by decide +kernel)];kernel_rfl)|(rw [if_neg (by decide +kernel)];exact ⟨rfl,rfl⟩)
theorem rF:joinedFacts Tryz.pinned.checked.prog 3 Tryz.f3 (OpenSpec.ofChange Rows.basesPairSpec).bare Rows.basesPairRow=true:=by
 unfold joinedFacts
 repeat' with_reducible refine Bool.and_eq_true_iff.2 ⟨?_,?_⟩
 all_goals as_aux_lemma=>kernel_rfl
end Go.Proofs.YtfijkfdfbnfmmaaGreatDoor
end
