/- A law of the program returns true for every input and leaves its arguments as they were. Condition: the variables that the row lists hold what the program's text lays. -/
import Derived.Test.YtebpicijmcnecaaGreatDoorCards
import Derived.Test.YtebpicijmcnecaaGreatDoorTie
import Derived.WalkKit
import Derived.ProofKit
import Derived.OpenShut
import Derived.Deep.DeepHandedRow
import Derived.Deep.DeepWitnessRowRef
import Derived.Lib.LaidTab
import Derived.Lib.LaidIn
import Derived.Lib.LaidU8
import Derived.Test.YtebpicijmcnecaaGreatDoorWau
set_option linter.all false
set_option maxRecDepth 100000
set_option maxRecDepth 1000000
open Option.some renaming inj→yak
namespace Go.Proofs.YtebpicijmcnecaaGreatDoor.sensorEncloses
open Go.ChangeShapes Go.WideShapes Go.ChangeAt Go.RowKit
theorem jd1:(Rows.sensorEnclosesRow.named==Tryz.pinned.checked.prog.varsNamed 4)=true:=by kernel_rfl
theorem jd2:(Rows.sensorEnclosesRow.inPlace==Tryz.pinned.checked.prog.inPlace 4)=true:=by kernel_rfl
theorem jd3:(Rows.sensorEnclosesRow.unfollowed==Tryz.pinned.checked.prog.unfollowed 4)=true:=by kernel_rfl
theorem jd4:(Rows.sensorEnclosesRow.recurses==Tryz.pinned.checked.prog.recurses 4)=true:=by kernel_rfl
theorem jd5:laidOutB Tryz.pinned.checked.prog=true:=by kernel_rfl
theorem jd6:mapsRowed Tryz.pinned.checked.prog=true:=by kernel_rfl
theorem closed:joinedFacts Tryz.pinned.checked.prog 4 Tryz.f4 (OpenSpec.ofChange Rows.sensorEnclosesSpec).bare Rows.sensorEnclosesRow=true:=by
 unfold joinedFacts;simp only [Bool.and_eq_true]
 repeat' apply And.intro
 all_goals with_reducible first | exact jd1 | exact jd2 | exact jd3 | exact jd4 | exact jd5 | exact jd6 | kernel_rfl
theorem said:Rows.SensorEnclosesSaid:=
 OpenClaim.holds_of_cond 4 Tryz.f4 rfl rfl rfl rfl rfl rfl rfl ⟨rfl,rfl,rfl,rfl,rfl⟩ rfl rfl rfl rfl rfl (by kernel_rfl) Tryz.func4 closed
  (of_decide_eq_true (by kernel_rfl)) (by unfold Func.isWrapper;first | (rw [yz (by decide+kernel)];kernel_rfl) | (rw [yp (by decide+kernel)];exact ⟨rfl,rfl⟩))
  (fun os started H enc _ F=>by rw [OpenClaim.pre_eq_preRow];exact lifted os started H enc F)
theorem plain (f:FuncId) (fn:Func) (hf:Tryz.pinned.checked.prog.funcNamed "lenslet/lensletlaw03.SensorEncloses"=some f) (mH:Tryz.pinned.checked.prog.funcs[f]? =some fn):
  true=Tryz.pinned.checked.prog.looks []/\∀(j:Nat) t,fn.params[j]? =some t->Tryz.pinned.checked.prog.wantsStandIn t=false:=by
 obtain rfl:f=4:=yak ((show Tryz.prog.funcNamed "lenslet/lensletlaw03.SensorEncloses"=some 4 by kernel_rfl).symm.trans hf) |>.symm;obtain rfl:fn=Tryz.f4:=(yak (Tryz.func4.symm.trans mH)).symm;refine ⟨by kernel_rfl,fun j t ht=>?_⟩;rw [Tryz.params4] at ht;have ht:t=5\/t=45:=by
  have:=Array.mem_of_getElem? ht
  simpa using this
 rcases ht with rfl | rfl
 ·exact (show Tryz.prog.wantsStandIn 5=false by kernel_rfl)
 ·exact (show Tryz.prog.wantsStandIn 45=false by kernel_rfl)
theorem card:Rows.SensorEnclosesCardSaid:=
 Claim7.holds_tied_plain_at .later [] _ _ _ _ said (fun _ h=>by cases h) (by kernel_rfl) (fun _ h=>by cases h) sensorEncloses_row_tie rfl ⟨rfl,rfl⟩ (by kernel_rfl) rfl plain (by kernel_rfl)
end Go.Proofs.YtebpicijmcnecaaGreatDoor.sensorEncloses
