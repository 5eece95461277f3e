/- BasesPair: the two shipped sums' pair is the reference's: the statement and its card. -/
import Derived.Test.YtfijkfdfbnfmmaaGreatDoorQF47
import Derived.Test.YtfijkfdfbnfmmaaGreatDoorQF48
set_option linter.unusedSimpArgs false
set_option linter.unusedVariables false
set_option maxRecDepth 100000
set_option maxHeartbeats 4000000
section
namespace Go.Proofs.YtfijkfdfbnfmmaaGreatDoor
open Proofs.Tryz
open Go.ChangeShapes Go.WideShapes Go.ChangeAt Go.RowKit
theorem BasesPair_said:Rows.BasesPairSaid :=
 OpenClaim.holds_of_cond 3 Tryz.f3 rfl rfl rfl rfl rfl rfl rfl ⟨rfl,rfl,rfl,rfl,rfl⟩ rfl rfl rfl rfl rfl bpFn func3 rF yF yV
  (fun os started H enc _ F=>by rw [OpenClaim.pre_eq_preRow];exact rL os started H enc F)
theorem uA (f:FuncId) (fn:Func) (hf:Tryz.pinned.checked.prog.funcNamed "reckoner/reckonerlaw18.BasesPair" = some f) (VS:Tryz.pinned.checked.prog.funcs[f]? = some fn) :
  true=Tryz.pinned.checked.prog.looks []∧∀(j:Nat) t,fn.params[j]? = some t→Tryz.pinned.checked.prog.wantsStandIn t=false:=by
 obtain rfl:f=3:=Option.some.inj ((show prog.funcNamed "reckoner/reckonerlaw18.BasesPair" = some 3 from qE).symm.trans hf) |>.symm;obtain rfl:fn=Tryz.f3:=(Option.some.inj (func3.symm.trans VS)).symm;refine ⟨by as_aux_lemma=>kernel_rfl,fun j t ht=>?_⟩;rw [params3] at ht;have:=Array.mem_of_getElem? ht;simp only [List.mem_toArray,List.mem_cons,List.not_mem_nil,or_false] at this;rcases this with rfl|rfl|rfl
 ·exact (show prog.wantsStandIn 22=false from qE)
 ·exact (show prog.wantsStandIn 24=false from qE)
 ·exact (show prog.wantsStandIn 24=false from qE)
theorem BasesPair_card:Rows.BasesPairCardSaid :=
 Claim7.holds_tied_plain_at .later [] _ _ _ _ BasesPair_said (fun _ h=>by cases h) (by as_aux_lemma=>kernel_rfl) (fun _ h=>by cases h) basesPair_row_tie rfl ⟨rfl,rfl⟩ (by as_aux_lemma=>kernel_rfl) rfl uA (by as_aux_lemma=>kernel_rfl)
#print axioms BasesPair_card
end Go.Proofs.YtfijkfdfbnfmmaaGreatDoor
end
