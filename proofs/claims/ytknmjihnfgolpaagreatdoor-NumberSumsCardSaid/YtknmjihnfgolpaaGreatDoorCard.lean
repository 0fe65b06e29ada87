/- NumberSums returns true for every input and leaves its arguments as they were. Condition: the variables that the row lists hold what the program's text lays. -/
import Derived.Test.YtknmjihnfgolpaaGreatDoorCards
import Derived.Test.YtknmjihnfgolpaaGreatDoorTie
import Derived.WalkKit
import Derived.ProofKit
import Derived.OpenShut
import Derived.Deep.DeepHandedRow
import Derived.Deep.DeepWitnessRowRef
import Derived.Lib.LaidTab
import Derived.Lib.LaidIn
import Derived.Lib.LaidU8
import Derived.Test.YtknmjihnfgolpaaGreatDoorTca
set_option linter.all false
set_option maxRecDepth 100000
set_option maxRecDepth 1000000
namespace Go.Proofs.YtknmjihnfgolpaaGreatDoor.numberSums
open Go.ChangeShapes Go.WideShapes Go.ChangeAt Go.RowKit
theorem own:ownKnob Tryz.prog.godebug=none:=by kernel_rfl
theorem zjw {P:Program} {W:World} {name:String} {k:IntKind} {zs:List Int} {g:Nat} {t e:TypeId} {n:Nat}
  (hg:P.globalNamed name=some g) (hty:(P.globals[g]?).map (·.type)=some t) (ht:P.underlying t=some (.array n e)) (he:P.underlying e=some (.int k)) (hce:P.cellsOf e=1) (hct:P.cellsOf t=n)
  (h:Lib.VarReads P W name (Lib.tabData k zs)):Lib.TabIs P W name k zs:=by
 obtain ⟨g',t',cs,fuel,p,hg',ht',hvar,hd⟩:=h;obtain rfl:=Option.some.inj (hg.symm.trans hg');obtain rfl:=Option.some.inj (hty.symm.trans ht');unfold Lib.TabIs;rw [hvar,←Lib.cells_of_tab ht he hce hct hd]
theorem zN9 {W:World} (h:laidMetH Tryz.prog Rows.numberSumsRow.laid W):Lib.TabIs Tryz.prog W "internal/strconv.uint64pow10" .u64 Lib.pow10Tab:=
 have h':laidMet Tryz.prog Rows.numberSumsRow.laid W:=h;have hm:("internal/strconv.uint64pow10",(Lib.tabData .u64 Lib.pow10Tab:DataW Unit))∈Rows.numberSumsRow.laid:= .tail _ (.tail _ (.head _))
 zjw (g:=8) (t:=273) (e:=179) (n:=20) (by kernel_rfl) (by kernel_rfl) Tryz.underlying273 Tryz.underlying179 (by kernel_rfl) (by kernel_rfl) (Lib.laidMet.reads h' hm)
theorem zOV:Tryz.f3.params.toList.all (VE.flat Tryz.prog 7)=true:=by
 rw [Tryz.params3];kernel_rfl
theorem zwN (H:Type) (enc:TypeId×Value→H) (W:World) (base:Nat) (args:Array Value) (ds gs:List (DataW H)) (before:List MemPlace)
  (hval:∀(j:Nat) t v,Tryz.f3.params[j]? =some t→args[j]? =some v→Value.okWide Tryz.prog W .any base t v)
  (hW:DataW.Whole enc Tryz.prog Tryz.f3.params.toList Rows.numberSumsSpec.vars false W args.toList ds gs before) (hL:laidMetH Tryz.prog Rows.numberSumsRow.laid W) (hsh:W.ShapedOpen Tryz.prog):
  Calls Tryz.prog 3 args W fun e W'=>∃v,e= .returned v∧Rows.numberSumsSpec.post enc Tryz.prog Tryz.f3 false true false false W args v W':=by
 have hW':=hW;obtain ⟨p,q,hA0,hV,rfl,hfz,hnd⟩:=hW;have hA:DataW.TrodAll enc Tryz.prog W 0 (fun _=>true) true Tryz.f3.params.toList args.toList ds p:=hA0;rw [Tryz.params3] at hA;obtain ⟨ls,hs,ha,hlen⟩:=VE.args_shp (n:=7) (Ts:=VE.sumsT) (by kernel_rfl) hA;obtain ⟨d0,d1,hds⟩:∃d0 d1,ds=[d0,d1]:=by
  match ds,hlen with
  | [d0,d1],_=>exact ⟨d0,d1,rfl⟩
 obtain ⟨rfl,rfl⟩:=trodVars_none hV;obtain ⟨m,hm⟩:=Tryz.s1_3 W hsh;have hp:=VE.J2.law hm (zN9 hL) hs;rw [←ha] at hp;have hp':VE.PureC (VE.J1.Λ W) 472 (VE.argsAV (VE.J1.Λ W).P 7 Tryz.f3.params.toList ds) (.bool true):=by
  rw [Tryz.params3];exact hp
 exact VE.law_calls (Λ:=VE.J1.Λ W) (n:=472) (k:=7) (fn:=Tryz.f3) (s:=Rows.numberSumsSpec) (tb:=4) hp' rfl Tryz.func3 rfl (by decide) hval hW' rfl zOV (by rw [hds];rfl) (by kernel_rfl) Tryz.underlying4
set_option maxRecDepth 10000 in
noncomputable def zf5 (os:Os):World:=
 let N:=(World.settled Tryz.prog os).heap.size
 let w0:=World.holding Tryz.prog os ⟨#[.cells #[.string ⟨#[105,110,118,97,108,105,100,32,115,121,110,116,97,120]⟩] 271,.cells #[.string ⟨#[118,97,108,117,101,32,111,117,116,32,111,102,32,114,97,110,103,101]⟩] 271],#[],[]⟩
 let put (h:Array Obj) (g:Nat) (cs:Array Value):Array Obj:=h.modify g fun
  | .cells _ t frozen=> .cells cs t frozen
  | o=>o
 let h3:=put w0.heap 8 (Lib.pow10Tab.map fun z=>Value.int .u64 z).toArray
 let h4:=put h3 4 #[.iface 269 (.pointer (some ⟨N,0,none⟩))]
 let h5:=put h4 5 #[.iface 269 (.pointer (some ⟨N+1,0,none⟩))]
 let h6:=put h5 6 (Lib.firstTab.map fun z=>Value.int .u8 z).toArray
 let h7:=put h6 7 ((List.range 16).flatMap fun i=>[Value.int .u8 (Lib.accLo i),Value.int .u8 (Lib.accHi i)]).toArray
 let h8:=put h7 9 (([0,1,28,2,29,14,24,3,30,22,20,15,25,17,4,8,31,27,13,23,21,19,16,7,26,12,18,6,11,5,10,9]:List Int).map fun z=>Value.int .u8 z).toArray
 let h9:=put h8 10 (([0,1,56,2,57,49,28,3,61,58,42,50,38,29,17,4,62,47,59,36,45,43,51,22,53,39,33,30,24,18,12,5,63,55,48,27,60,41,37,16,46,35,44,21,52,32,23,11,54,26,40,15,34,20,31,10,25,14,19,9,13,8,7,6]:List Int).map fun z=>Value.int .u8 z).toArray
 {w0 with heap:=h9}
noncomputable abbrev N0:Nat:=(World.settled Tryz.prog default).heap.size
abbrev wargs:Array Value:=#[.string ⟨#[]⟩,.string ⟨#[]⟩]
set_option maxRecDepth 1000000 in
theorem zye (os:Os) (args:Array Value):laidMet Tryz.prog Rows.numberSumsRow.laid ((zf5 os).forCall (fun _ _=>0) ⟨#[],args,[]⟩).memory:=
 (LaidIn.of_run [8,4,5,6,7,9,10,N0,N0+1] 8 (by kernel_rfl) (by kernel_rfl) (by kernel_rfl) (by kernel_rfl)).met
theorem znJ (os:Os) {H:Type} (enc:TypeId×Value→H):
  (OpenSpec.ofChange Rows.numberSumsSpec).preRow enc Tryz.prog Tryz.f3 Rows.numberSumsRow.domain false Rows.numberSumsRow.laid ((zf5 os).forCall (fun _ _=>0) ⟨#[],wargs,[]⟩).memory wargs:=by
 have hw:(DataW.whole enc Tryz.prog ((zf5 os).forCall (fun _ _=>0) ⟨#[],wargs,[]⟩).memory Tryz.f3.params.toList Rows.numberSumsSpec.vars false wargs.toList 8).map (fun x=>(x.1,x.2.1))=
   some ([.lit (.string []),.lit (.string [])],[]):=by kernel_rfl
 obtain ⟨⟨x1,x2,x3⟩,hx,hx1⟩:=Option.map_eq_some_iff.1 hw;simp only [Prod.mk.injEq] at hx1;obtain ⟨rfl,rfl⟩:=hx1;exact OpenSpec.preRow_of_cond 8 hx (by kernel_rfl) (fun k hk=>by cases hk) (by kernel_rfl) (zye os _)
set_option maxRecDepth 100000 in
theorem zGE (os:Os) (started:os.Started) (H:Type) (enc:TypeId×Value→H) (F:Stop.Interp):
  ReturnsInHanded {} Tryz.checked os 3 .any ((OpenSpec.ofChange Rows.numberSumsSpec).preRow enc Tryz.prog Tryz.f3 Rows.numberSumsRow.domain false Rows.numberSumsRow.laid) (((OpenSpec.ofChange Rows.numberSumsSpec).at F).post enc Tryz.prog Tryz.f3 false true false false):=by
 refine returnsInHanded_of_row (C:=Tryz.checked) (s:=OpenSpec.ofChange Rows.numberSumsSpec) own started (by kernel_rfl) Tryz.func3
  (witness_row_atRef (enc:=enc) (C:=Tryz.checked) false (zf5 os) wargs rfl (by kernel_rfl) (by kernel_rfl) (by kernel_rfl) (znJ os enc)) ?_
 intro W base args ds gs before hval hW _ _ _ hL hsh _;exact zwN H enc W base args ds gs before hval hW hL hsh
theorem zQp:Rows.NumberSumsSaid:=
 OpenClaim.holds_of_cond 3 Tryz.f3 rfl rfl rfl rfl rfl rfl rfl ⟨rfl,rfl,rfl,rfl,rfl⟩ rfl rfl rfl rfl rfl (by kernel_rfl) Tryz.func3 (by kernel_rfl)
  (of_decide_eq_true (by kernel_rfl)) (by unfold Func.isWrapper;first | (rw [if_pos (by decide+kernel)];kernel_rfl) | (rw [if_neg (by decide+kernel)];exact ⟨rfl,rfl⟩))
  (fun os started H enc _ F=>by rw [OpenClaim.pre_eq_preRow];exact zGE os started H enc F)
theorem ziH (f:FuncId) (fn:Func) (hf:Tryz.pinned.checked.prog.funcNamed "lenslet/lensletlaw01.NumberSums"=some f) (hfn:Tryz.pinned.checked.prog.funcs[f]? =some fn):
  true=Tryz.pinned.checked.prog.looks []∧∀(j:Nat) t,fn.params[j]? =some t→Tryz.pinned.checked.prog.wantsStandIn t=false:=by
 obtain rfl:f=3:=Option.some.inj ((show Tryz.prog.funcNamed "lenslet/lensletlaw01.NumberSums"=some 3 by kernel_rfl).symm.trans hf) |>.symm;obtain rfl:fn=Tryz.f3:=(Option.some.inj (Tryz.func3.symm.trans hfn)).symm;refine ⟨by kernel_rfl,fun j t ht=>?_⟩;rw [Tryz.params3] at ht;have ht:t=22:=by
  have:=Array.mem_of_getElem? ht
  simpa using this
 subst ht;exact (show Tryz.prog.wantsStandIn 22=false by kernel_rfl)
theorem card:Rows.NumberSumsCardSaid:=
 Claim7.holds_tied_plain_at .later [] _ _ _ _ zQp (fun _ h=>by cases h) (by kernel_rfl) (fun _ h=>by cases h) numberSums_row_tie rfl ⟨rfl,rfl⟩ (by kernel_rfl) rfl ziH (by kernel_rfl)
end Go.Proofs.YtknmjihnfgolpaaGreatDoor.numberSums
