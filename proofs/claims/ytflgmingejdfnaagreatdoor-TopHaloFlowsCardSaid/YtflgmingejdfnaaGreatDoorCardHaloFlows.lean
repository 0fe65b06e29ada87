/- TopHaloFlows returns true for every input and leaves its arguments as they were. Condition: the variables that the row lists hold what the program's text lays. -/
import Derived.Test.YtflgmingejdfnaaGreatDoorCards
import Derived.Test.YtflgmingejdfnaaGreatDoorTie
import Derived.WalkKit
import Derived.ProofKit
import Derived.OpenShut
import Derived.Deep.DeepHandedRow
import Derived.Deep.DeepWitnessRowRef
import Derived.Lib.LaidTab
import Derived.Lib.LaidIn
import Derived.Lib.LaidU8
import Derived.Test.YtflgmingejdfnaaGreatDoorUbe
set_option linter.all false
set_option maxRecDepth 100000
set_option maxRecDepth 1000000
open Option.some renaming inj→vj
namespace Go.Proofs.YtflgmingejdfnaaGreatDoor.topHaloFlows
open Go.ChangeShapes Go.WideShapes Go.ChangeAt Go.RowKit
theorem Zf:(Rows.topHaloFlowsRow.named==Tryz.pinned.checked.prog.varsNamed 6)=true:=by kernel_rfl
theorem Zg:(Rows.topHaloFlowsRow.inPlace==Tryz.pinned.checked.prog.inPlace 6)=true:=by kernel_rfl
theorem Zh:(Rows.topHaloFlowsRow.unfollowed==Tryz.pinned.checked.prog.unfollowed 6)=true:=by kernel_rfl
theorem Zi:(Rows.topHaloFlowsRow.recurses==Tryz.pinned.checked.prog.recurses 6)=true:=by kernel_rfl
theorem Zj:laidOutB Tryz.pinned.checked.prog=true:=by kernel_rfl
theorem Zk:mapsRowed Tryz.pinned.checked.prog=true:=by kernel_rfl
theorem closed:joinedFacts Tryz.pinned.checked.prog 6 Tryz.f6 (OpenSpec.ofChange Rows.topHaloFlowsSpec).bare Rows.topHaloFlowsRow=true:=by
 unfold joinedFacts;simp only [Bool.and_eq_true]
 repeat' apply And.intro
 all_goals with_reducible first | exact Zf | exact Zg | exact Zh | exact Zi | exact Zj | exact Zk | kernel_rfl
theorem said:Rows.TopHaloFlowsSaid:=
 OpenClaim.holds_of_cond 6 Tryz.f6 rfl rfl rfl rfl rfl rfl rfl ⟨rfl,rfl,rfl,rfl,rfl⟩ rfl rfl rfl rfl rfl (by kernel_rfl) Tryz.func6 closed
  (of_decide_eq_true (by kernel_rfl)) (by unfold Func.isWrapper;first | (rw [yF (by decide+kernel)];kernel_rfl) | (rw [yr (by decide+kernel)];exact ⟨rfl,rfl⟩))
  (fun os started H enc _ F=>by rw [OpenClaim.pre_eq_preRow];exact lifted os started H enc F)
theorem plain (f:FuncId) (fn:Func) (hf:Tryz.pinned.checked.prog.funcNamed "lenslet/lenslettop.TopHaloFlows"=some f) (kM:Tryz.pinned.checked.prog.funcs[f]? =some fn):
  true=Tryz.pinned.checked.prog.looks []/\∀(j:Nat) t,fn.params[j]? =some t->Tryz.pinned.checked.prog.wantsStandIn t=false:=by
 obtain rfl:f=6:=vj ((show Tryz.prog.funcNamed "lenslet/lenslettop.TopHaloFlows"=some 6 by kernel_rfl).symm.trans hf) |>.symm;obtain rfl:fn=Tryz.f6:=(vj (Tryz.func6.symm.trans kM)).symm;refine ⟨by kernel_rfl,fun j t ht=>?_⟩;rw [Tryz.params6] at ht;have ht:t=88:=by
  have:=Array.mem_of_getElem? ht
  simpa using this
 subst ht;exact (show Tryz.prog.wantsStandIn 88=false by kernel_rfl)
theorem card:Rows.TopHaloFlowsCardSaid:=
 Claim7.holds_tied_plain_at .later [] _ _ _ _ said (fun _ h=>by cases h) (by kernel_rfl) (fun _ h=>by cases h) topHaloFlows_row_tie rfl ⟨rfl,rfl⟩ (by kernel_rfl) rfl plain (by kernel_rfl)
end Go.Proofs.YtflgmingejdfnaaGreatDoor.topHaloFlows
