/- NumberSpans returns true for every input and leaves its arguments as they were. Condition: the variables that the row lists hold what the program's text lays. -/
import Derived.Test.YtlkgmaenobiooaaGreatDoorCards
import Derived.Test.YtlkgmaenobiooaaGreatDoorTie
import Derived.WalkKit
import Derived.ProofKit
import Derived.OpenShut
import Derived.Deep.DeepHandedRow
import Derived.Deep.DeepWitnessRowRef
import Derived.Lib.LaidTab
import Derived.Lib.LaidIn
import Derived.Lib.LaidU8
import Derived.Test.YtlkgmaenobiooaaGreatDoorTbo
set_option linter.all false
set_option maxRecDepth 100000
set_option maxRecDepth 1000000
open Option.some renaming inj→xQ
namespace Go.Proofs.YtlkgmaenobiooaaGreatDoor.Ug
open Go.ChangeShapes Go.WideShapes Go.ChangeAt Go.RowKit
theorem BB:(Rows.numberSpansRow.named==Tryz.pinned.checked.prog.varsNamed 6)=true:=by kernel_rfl
theorem BC:(Rows.numberSpansRow.inPlace==Tryz.pinned.checked.prog.inPlace 6)=true:=by kernel_rfl
theorem BD:(Rows.numberSpansRow.unfollowed==Tryz.pinned.checked.prog.unfollowed 6)=true:=by kernel_rfl
theorem BE:(Rows.numberSpansRow.recurses==Tryz.pinned.checked.prog.recurses 6)=true:=by kernel_rfl
theorem BF:laidOutB Tryz.pinned.checked.prog=true:=by kernel_rfl
theorem BG:mapsRowed Tryz.pinned.checked.prog=true:=by kernel_rfl
theorem closed:joinedFacts Tryz.pinned.checked.prog 6 Tryz.f6 (OpenSpec.ofChange Rows.numberSpansSpec).bare Rows.numberSpansRow=true:=by
 unfold joinedFacts;simp only [Bool.and_eq_true]
 repeat' apply And.intro
 all_goals with_reducible first | exact BB | exact BC | exact BD | exact BE | exact BF | exact BG | kernel_rfl
theorem said:Rows.NumberSpansSaid:=
 OpenClaim.holds_of_cond 6 Tryz.f6 rfl rfl rfl rfl rfl rfl rfl ⟨rfl,rfl,rfl,rfl,rfl⟩ rfl rfl rfl rfl rfl (by kernel_rfl) Tryz.func6 closed
  (of_decide_eq_true (by kernel_rfl)) (by unfold Func.isWrapper;first | (rw [yz (by decide+kernel)];kernel_rfl) | (rw [yp (by decide+kernel)];exact ⟨rfl,rfl⟩))
  (fun os started H enc _ F=>by rw [OpenClaim.pre_eq_preRow];exact lifted os started H enc F)
theorem plain (f:FuncId) (fn:Func) (hf:Tryz.pinned.checked.prog.funcNamed "lenslet/lensletlaw01.NumberSpans"=some f) (gR:Tryz.pinned.checked.prog.funcs[f]? =some fn):
  true=Tryz.pinned.checked.prog.looks []/\∀(j:Nat) t,fn.params[j]? =some t->Tryz.pinned.checked.prog.wantsStandIn t=false:=by
 obtain rfl:f=6:=xQ ((show Tryz.prog.funcNamed "lenslet/lensletlaw01.NumberSpans"=some 6 by kernel_rfl).symm.trans hf) |>.symm;obtain rfl:fn=Tryz.f6:=(xQ (Tryz.func6.symm.trans gR)).symm;refine ⟨by kernel_rfl,fun j t ht=>?_⟩;rw [Tryz.params6] at ht;have ht:t=24\/t=3:=by
  have:=Array.mem_of_getElem? ht
  simpa using this
 rcases ht with rfl | rfl
 ·exact (show Tryz.prog.wantsStandIn 24=false by kernel_rfl)
 ·exact (show Tryz.prog.wantsStandIn 3=false by kernel_rfl)
theorem card:Rows.NumberSpansCardSaid:=
 Claim7.holds_tied_plain_at .later [] _ _ _ _ said (fun _ h=>by cases h) (by kernel_rfl) (fun _ h=>by cases h) numberSpans_row_tie rfl ⟨rfl,rfl⟩ (by kernel_rfl) rfl plain (by kernel_rfl)
end Go.Proofs.YtlkgmaenobiooaaGreatDoor.Ug
