/- NumberSquares returns true for every input and leaves its arguments as they were. Condition: the variables that the row lists hold what the program's text lays. -/
import Derived.Test.YtlkgmaenobiooaaGreatDoorCards
import Derived.Test.YtlkgmaenobiooaaGreatDoorTie
import Derived.WalkKit
import Derived.ProofKit
import Derived.OpenShut
import Derived.Deep.DeepHandedRow
import Derived.Deep.DeepWitnessRowRef
import Derived.Lib.LaidTab
import Derived.Lib.LaidIn
import Derived.Lib.LaidU8
import Derived.Test.YtlkgmaenobiooaaGreatDoorTbr
set_option linter.all false
set_option maxRecDepth 100000
set_option maxRecDepth 1000000
open Option.some renaming inj→xQ
namespace Go.Proofs.YtlkgmaenobiooaaGreatDoor.TV
open Go.ChangeShapes Go.WideShapes Go.ChangeAt Go.RowKit
theorem BB:(Rows.numberSquaresRow.named==Tryz.pinned.checked.prog.varsNamed 7)=true:=by kernel_rfl
theorem BC:(Rows.numberSquaresRow.inPlace==Tryz.pinned.checked.prog.inPlace 7)=true:=by kernel_rfl
theorem BD:(Rows.numberSquaresRow.unfollowed==Tryz.pinned.checked.prog.unfollowed 7)=true:=by kernel_rfl
theorem BE:(Rows.numberSquaresRow.recurses==Tryz.pinned.checked.prog.recurses 7)=true:=by kernel_rfl
theorem BF:laidOutB Tryz.pinned.checked.prog=true:=by kernel_rfl
theorem BG:mapsRowed Tryz.pinned.checked.prog=true:=by kernel_rfl
theorem closed:joinedFacts Tryz.pinned.checked.prog 7 Tryz.f7 (OpenSpec.ofChange Rows.numberSquaresSpec).bare Rows.numberSquaresRow=true:=by
 unfold joinedFacts;simp only [Bool.and_eq_true]
 repeat' apply And.intro
 all_goals with_reducible first | exact BB | exact BC | exact BD | exact BE | exact BF | exact BG | kernel_rfl
theorem said:Rows.NumberSquaresSaid:=
 OpenClaim.holds_of_cond 7 Tryz.f7 rfl rfl rfl rfl rfl rfl rfl ⟨rfl,rfl,rfl,rfl,rfl⟩ rfl rfl rfl rfl rfl (by kernel_rfl) Tryz.func7 closed
  (of_decide_eq_true (by kernel_rfl)) (by unfold Func.isWrapper;first | (rw [yz (by decide+kernel)];kernel_rfl) | (rw [yp (by decide+kernel)];exact ⟨rfl,rfl⟩))
  (fun os started H enc _ F=>by rw [OpenClaim.pre_eq_preRow];exact lifted os started H enc F)
theorem plain (f:FuncId) (fn:Func) (hf:Tryz.pinned.checked.prog.funcNamed "lenslet/lensletlaw01.NumberSquares"=some f) (gR:Tryz.pinned.checked.prog.funcs[f]? =some fn):
  true=Tryz.pinned.checked.prog.looks []/\∀(j:Nat) t,fn.params[j]? =some t->Tryz.pinned.checked.prog.wantsStandIn t=false:=by
 obtain rfl:f=7:=xQ ((show Tryz.prog.funcNamed "lenslet/lensletlaw01.NumberSquares"=some 7 by kernel_rfl).symm.trans hf) |>.symm;obtain rfl:fn=Tryz.f7:=(xQ (Tryz.func7.symm.trans gR)).symm;refine ⟨by kernel_rfl,fun j t ht=>?_⟩;rw [Tryz.params7] at ht;have ht:t=22\/t=3:=by
  have:=Array.mem_of_getElem? ht
  simpa using this
 rcases ht with rfl | rfl
 ·exact (show Tryz.prog.wantsStandIn 22=false by kernel_rfl)
 ·exact (show Tryz.prog.wantsStandIn 3=false by kernel_rfl)
theorem card:Rows.NumberSquaresCardSaid:=
 Claim7.holds_tied_plain_at .later [] _ _ _ _ said (fun _ h=>by cases h) (by kernel_rfl) (fun _ h=>by cases h) numberSquares_row_tie rfl ⟨rfl,rfl⟩ (by kernel_rfl) rfl plain (by kernel_rfl)
end Go.Proofs.YtlkgmaenobiooaaGreatDoor.TV
