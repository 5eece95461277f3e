/- WorthsField: a plus b less b is a; a times b by b is a, if b is not 0; a to the power of n and 1 is that to th. -/
import Derived.Test.YtnnhcbeiogaknaaGreatDoorQV47
import Derived.Test.YtnnhcbeiogaknaaGreatDoorQV48
set_option linter.unusedSimpArgs false
set_option linter.unusedVariables false
set_option maxRecDepth 100000
set_option maxHeartbeats 4000000
section
namespace Go.Proofs.YtnnhcbeiogaknaaGreatDoor
open Go.ChangeShapes Go.WideShapes Go.ChangeAt Go.RowKit
theorem WorthsField_said:Rows.WorthsFieldUptoSaid :=
 OpenClaim.holds_of_cond 5 Tryz.f5 rfl rfl rfl rfl rfl rfl rfl ⟨rfl,rfl,rfl,rfl,rfl⟩ rfl rfl rfl rfl rfl wfFn Tryz.func5 oE Abl Aao
  (fun os started H enc _ F=>by rw [OpenClaim.pre_eq_preRow];exact nW os started H enc F)
theorem wF (f:FuncId) (fn:Func) (hf:Tryz.pinned.checked.prog.funcNamed "reckoner/reckonerlaw19.WorthsField" = some f) (hfn:Tryz.pinned.checked.prog.funcs[f]? = some fn) :
  true=Tryz.pinned.checked.prog.looks []∧∀(j:Nat) t,fn.params[j]? = some t→Tryz.pinned.checked.prog.wantsStandIn t=false:=by
 obtain rfl:f=5:=Option.some.inj ((show Tryz.prog.funcNamed "reckoner/reckonerlaw19.WorthsField" = some 5 by kernel_rfl).symm.trans hf) |>.symm;obtain rfl:fn=Tryz.f5:=(Option.some.inj (Tryz.func5.symm.trans hfn)).symm;refine ⟨by as_aux_lemma=>kernel_rfl,fun j t ht=>?_⟩;rw [Tryz.params5] at ht;have:=Array.mem_of_getElem? ht;simp only [List.mem_toArray,List.mem_cons,List.not_mem_nil,or_false] at this;rcases this with rfl|rfl|rfl
 ·exact (show Tryz.prog.wantsStandIn 60=false by kernel_rfl)
 ·exact (show Tryz.prog.wantsStandIn 60=false by kernel_rfl)
 ·exact (show Tryz.prog.wantsStandIn 5=false by kernel_rfl)
theorem WorthsField_card:Rows.WorthsFieldUptoCardSaid :=
 Claim7.holds_tied_plain_at .later [] _ _ _ _ WorthsField_said (fun _ h=>by cases h) (by as_aux_lemma=>kernel_rfl) (fun _ h=>by cases h) worthsFieldUpto_row_tie rfl ⟨rfl,rfl⟩ (by as_aux_lemma=>kernel_rfl) rfl wF (by as_aux_lemma=>kernel_rfl)
#print axioms WorthsField_card
end Go.Proofs.YtnnhcbeiogaknaaGreatDoor
end
