/- WorthsLists: what is added to a list stands at its end; what stands there is told by its place; there are as m. -/
import Derived.Test.YtnnhcbeiogaknaaGreatDoorQT47
import Derived.Test.YtnnhcbeiogaknaaGreatDoorQT48
set_option linter.unusedSimpArgs false
set_option linter.unusedVariables false
set_option maxRecDepth 100000
set_option maxHeartbeats 4000000
section
namespace Go.Proofs.YtnnhcbeiogaknaaGreatDoor
open Go.ChangeShapes Go.WideShapes Go.ChangeAt Go.RowKit
theorem WorthsLists_said:Rows.WorthsListsSaid :=
 OpenClaim.holds_of_cond 6 Tryz.f6 rfl rfl rfl rfl rfl rfl rfl ⟨rfl,rfl,rfl,rfl,rfl⟩ rfl rfl rfl rfl rfl zQ Tryz.func6 iC wC uX
  (fun os started H enc _ F=>by rw [OpenClaim.pre_eq_preRow];exact mV os started H enc F)
theorem sJ (f:FuncId) (fn:Func) (hf:Tryz.pinned.checked.prog.funcNamed "reckoner/reckonerlaw19.WorthsLists" = some f) (hfn:Tryz.pinned.checked.prog.funcs[f]? = some fn) :
  true=Tryz.pinned.checked.prog.looks []∧∀(j:Nat) t,fn.params[j]? = some t→Tryz.pinned.checked.prog.wantsStandIn t=false:=by
 obtain rfl:f=6:=Option.some.inj ((show Tryz.prog.funcNamed "reckoner/reckonerlaw19.WorthsLists" = some 6 by kernel_rfl).symm.trans hf) |>.symm;obtain rfl:fn=Tryz.f6:=(Option.some.inj (Tryz.func6.symm.trans hfn)).symm;refine ⟨by as_aux_lemma=>kernel_rfl,fun j t ht=>?_⟩;rw [Tryz.params6] at ht;obtain rfl:t=58:=by simpa using Array.mem_of_getElem? ht
 exact (show Tryz.prog.wantsStandIn 58=false by kernel_rfl)
theorem WorthsLists_card:Rows.WorthsListsCardSaid :=
 Claim7.holds_tied_plain_at .later [] _ _ _ _ WorthsLists_said (fun _ h=>by cases h) (by as_aux_lemma=>kernel_rfl) (fun _ h=>by cases h) worthsLists_row_tie rfl ⟨rfl,rfl⟩ (by as_aux_lemma=>kernel_rfl) rfl sJ (by as_aux_lemma=>kernel_rfl)
#print axioms WorthsLists_card
end Go.Proofs.YtnnhcbeiogaknaaGreatDoor
end
