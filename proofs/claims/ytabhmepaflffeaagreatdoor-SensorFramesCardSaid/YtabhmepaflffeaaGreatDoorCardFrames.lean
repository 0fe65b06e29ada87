/- A law of the program returns true for every input. Condition: the variables that the row lists hold what the program's text lays. -/
import Derived.Test.YtabhmepaflffeaaGreatDoorXav
set_option linter.all false
set_option maxRecDepth 1000000
open Option.some renaming inj→yag
namespace Go.Proofs.YtabhmepaflffeaaGreatDoor.sensorFrames
open Go.ChangeShapes Go.WideShapes Go.ChangeAt Go.RowKit
abbrev R:=Rows.sensorFramesRow
noncomputable abbrev Q:=Tryz.pinned.checked.prog
theorem jd1:(R.named==Q.varsNamed 3)=true:=by kernel_rfl
theorem jd2:(R.inPlace==Q.inPlace 3)=true:=by kernel_rfl
theorem jd3:(R.unfollowed==Q.unfollowed 3)=true:=by kernel_rfl
theorem jd4:(R.recurses==Q.recurses 3)=true:=by kernel_rfl
theorem jd5:laidOutB Q=true:=by kernel_rfl
theorem jd6:mapsRowed Q=true:=by kernel_rfl
theorem closed:joinedFacts Q 3 Tryz.f3 (OpenSpec.ofChange Rows.sensorFramesSpec).bare R=true:=by
 unfold joinedFacts;simp only [Bool.and_eq_true]
 repeat' apply And.intro
 all_goals with_reducible first | exact jd1 | exact jd2 | exact jd3 | exact jd4 | exact jd5 | exact jd6 | kernel_rfl
theorem said:Rows.SensorFramesSaid:=
 OpenClaim.holds_of_cond 3 Tryz.f3 rfl rfl rfl rfl rfl rfl rfl ⟨rfl,rfl,rfl,rfl,rfl⟩ rfl rfl rfl rfl rfl (by kernel_rfl) Tryz.func3 closed
  (of_decide_eq_true (by kernel_rfl)) (by unfold Func.isWrapper;first | (rw [yC (by decide+kernel)];kernel_rfl) | (rw [yq (by decide+kernel)];exact ⟨rfl,rfl⟩))
  (fun os started H enc _ F=>by rw [OpenClaim.pre_eq_preRow];exact lifted os started H enc F)
theorem plain (f:FuncId) (fn:Func) (hf:Q.funcNamed "lenslet/lensletlaw03.SensorFrames"=some f) (nn:Q.funcs[f]? =some fn):
  true=Q.looks []/\∀(j:Nat) t,fn.params[j]? =some t->Q.wantsStandIn t=false:=by
 obtain rfl:f=3:=yag ((show Tryz.prog.funcNamed "lenslet/lensletlaw03.SensorFrames"=some 3 by kernel_rfl).symm.trans hf) |>.symm;obtain rfl:fn=Tryz.f3:=(yag (Tryz.func3.symm.trans nn)).symm;refine ⟨by kernel_rfl,fun j t ht=>?_⟩;rw [Tryz.params3] at ht;have ht:t=23\/t=27\/t=24:=by
  have:=Array.mem_of_getElem? ht
  simpa using this
 rcases ht with rfl|rfl|rfl<;>change Tryz.prog.wantsStandIn _=false<;>kernel_rfl
theorem tie:Tryz.prog.laidByTextLater (R.laid.take 9) [.data,.data,.data,.data,.data,.data,.data,.sentinel,.sentinel] true:=
 Program.laidByTextLater_by_one 87 8 65 (by kernel_rfl) (by kernel_rfl) (by kernel_rfl) (by kernel_rfl) (by kernel_rfl) (by kernel_rfl) (fun _ _=>by kernel_rfl)
theorem pin:Q.pinnedFits "unicode/utf8.first" = true := by kernel_rfl
theorem row_tie:R.laidByTextAt .later Tryz.pinned [.data,.data,.data,.data,.data,.data,.data,.sentinel,.sentinel,.pinned] true:=
 OpenClaim.laidByTextAt_pinned rfl rfl tie rfl rfl (by kernel_rfl) rfl (fun y hy e=>by
  simp only [R,Rows.sensorFramesRow,List.zip_cons_cons,List.zip_nil_right,List.mem_cons,List.mem_nil_iff,or_false] at hy
  rcases hy with rfl|rfl|rfl|rfl|rfl|rfl|rfl|rfl|rfl|rfl
  all_goals first | exact ⟨pin,by kernel_rfl⟩ | cases e) (by
  unfold Program.listedFits
  rw [show Q.headLifts.contains "ownunsafe"=false by kernel_rfl]
  kernel_rfl)
theorem card:Rows.SensorFramesCardSaid:=
 Claim7.holds_tied_plain_at .later [] _ _ _ _ said (fun _ h=>by cases h) (by kernel_rfl) (fun _ h=>by cases h) row_tie rfl ⟨rfl,rfl⟩ (by kernel_rfl) rfl plain (by kernel_rfl)
end Go.Proofs.YtabhmepaflffeaaGreatDoor.sensorFrames
