/- A law of the program returns true for every input and leaves its arguments as they were. Condition: the variables that the row lists hold what the program's text lays. -/
import Derived.Test.YtjemkccfpkgopaaGreatDoorCards
import Derived.Test.YtjemkccfpkgopaaGreatDoorTie
import Derived.WalkKit
import Derived.ProofKit
import Derived.OpenShut
import Derived.Deep.DeepHandedRow
import Derived.Deep.DeepWitnessRowRef
import Derived.Lib.LaidTab
import Derived.Lib.LaidIn
import Derived.Lib.LaidU8
import Derived.Test.YtjemkccfpkgopaaGreatDoorXaw
set_option linter.all false
set_option maxRecDepth 100000
set_option maxRecDepth 1000000
open Option.some renaming inj→uQ
namespace Go.Proofs.YtjemkccfpkgopaaGreatDoor.numberEquations
open Go.ChangeShapes Go.WideShapes Go.ChangeAt Go.RowKit
theorem jd1:(Rows.numberEquationsRow.named==Tryz.pinned.checked.prog.varsNamed 6)=true:=by kernel_rfl
theorem jd2:(Rows.numberEquationsRow.inPlace==Tryz.pinned.checked.prog.inPlace 6)=true:=by kernel_rfl
theorem jd3:(Rows.numberEquationsRow.unfollowed==Tryz.pinned.checked.prog.unfollowed 6)=true:=by kernel_rfl
theorem jd4:(Rows.numberEquationsRow.recurses==Tryz.pinned.checked.prog.recurses 6)=true:=by kernel_rfl
theorem jd5:laidOutB Tryz.pinned.checked.prog=true:=by kernel_rfl
theorem jd6:mapsRowed Tryz.pinned.checked.prog=true:=by kernel_rfl
theorem closed:joinedFacts Tryz.pinned.checked.prog 6 Tryz.f6 (OpenSpec.ofChange Rows.numberEquationsSpec).bare Rows.numberEquationsRow=true:=by
 unfold joinedFacts;simp only [Bool.and_eq_true]
 repeat' apply And.intro
 all_goals with_reducible first | exact jd1 | exact jd2 | exact jd3 | exact jd4 | exact jd5 | exact jd6 | kernel_rfl
theorem said:Rows.NumberEquationsSaid:=
 OpenClaim.holds_of_cond 6 Tryz.f6 rfl rfl rfl rfl rfl rfl rfl ⟨rfl,rfl,rfl,rfl,rfl⟩ rfl rfl rfl rfl rfl (by kernel_rfl) Tryz.func6 closed
  (of_decide_eq_true (by kernel_rfl)) (by unfold Func.isWrapper;first | (rw [yQ (by decide+kernel)];kernel_rfl) | (rw [yB (by decide+kernel)];exact ⟨rfl,rfl⟩))
  (fun os started H enc _ F=>by rw [OpenClaim.pre_eq_preRow];exact lifted os started H enc F)
theorem plain (f:FuncId) (fn:Func) (hf:Tryz.pinned.checked.prog.funcNamed "lenslet/lensletlaw01.NumberEquations"=some f) (kW:Tryz.pinned.checked.prog.funcs[f]? =some fn):
  true=Tryz.pinned.checked.prog.looks []/\∀(j:Nat) t,fn.params[j]? =some t->Tryz.pinned.checked.prog.wantsStandIn t=false:=by
 obtain rfl:f=6:=uQ ((show Tryz.prog.funcNamed "lenslet/lensletlaw01.NumberEquations"=some 6 by kernel_rfl).symm.trans hf) |>.symm;obtain rfl:fn=Tryz.f6:=(uQ (Tryz.func6.symm.trans kW)).symm;refine ⟨by kernel_rfl,fun j t ht=>?_⟩;rw [Tryz.params6] at ht;have ht:t=22\/t=35:=by
  have:=Array.mem_of_getElem? ht
  simpa using this
 rcases ht with rfl | rfl
 ·exact (show Tryz.prog.wantsStandIn 22=false by kernel_rfl)
 ·exact (show Tryz.prog.wantsStandIn 35=false by kernel_rfl)
theorem card:Rows.NumberEquationsCardSaid:=
 Claim7.holds_tied_plain_at .later [] _ _ _ _ said (fun _ h=>by cases h) (by kernel_rfl) (fun _ h=>by cases h) numberEquations_row_tie rfl ⟨rfl,rfl⟩ (by kernel_rfl) rfl plain (by kernel_rfl)
end Go.Proofs.YtjemkccfpkgopaaGreatDoor.numberEquations
