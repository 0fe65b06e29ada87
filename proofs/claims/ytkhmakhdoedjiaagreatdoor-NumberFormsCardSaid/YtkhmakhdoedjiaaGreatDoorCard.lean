/- NumberForms returns true for every input and leaves its arguments as they were. Condition: the variables that the row lists hold what the program's text lays. -/
import Derived.Test.YtkhmakhdoedjiaaGreatDoorCards
import Derived.Test.YtkhmakhdoedjiaaGreatDoorTie
import Derived.WalkKit
import Derived.ProofKit
import Derived.OpenShut
import Derived.Deep.DeepHandedRow
import Derived.Deep.DeepWitnessRowRef
import Derived.Lib.LaidTab
import Derived.Lib.LaidIn
import Derived.Lib.LaidU8
import Derived.Test.YtkhmakhdoedjiaaGreatDoorTby
set_option linter.all false
set_option maxRecDepth 100000
set_option maxRecDepth 1000000
namespace Go.Proofs.YtkhmakhdoedjiaaGreatDoor.numberForms
open Go.ChangeShapes Go.WideShapes Go.ChangeAt Go.RowKit
theorem own:ownKnob Tryz.prog.godebug=none:=by kernel_rfl
theorem zjQ {P:Program} {W:World} {name:String} {k:IntKind} {zs:List Int} {g:Nat} {t e:TypeId} {n:Nat}
  (hg:P.globalNamed name=some g) (hty:(P.globals[g]?).map (·.type)=some t) (ht:P.underlying t=some (.array n e)) (he:P.underlying e=some (.int k)) (hce:P.cellsOf e=1) (hct:P.cellsOf t=n)
  (h:Lib.VarReads P W name (Lib.tabData k zs)):Lib.TabIs P W name k zs:=by
 obtain ⟨g',t',cs,fuel,p,hg',ht',hvar,hd⟩:=h;obtain rfl:=Option.some.inj (hg.symm.trans hg');obtain rfl:=Option.some.inj (hty.symm.trans ht');unfold Lib.TabIs;rw [hvar,←Lib.cells_of_tab ht he hce hct hd]
theorem zMT {W:World} (h:laidMetH Tryz.prog Rows.numberFormsRow.laid W):Lib.TabIs Tryz.prog W "internal/strconv.uint64pow10" .u64 Lib.pow10Tab:=
 have h':laidMet Tryz.prog Rows.numberFormsRow.laid W:=h;have hm:("internal/strconv.uint64pow10",(Lib.tabData .u64 Lib.pow10Tab:DataW Unit))∈Rows.numberFormsRow.laid:= .tail _ (.tail _ (.head _))
 zjQ (g:=6) (t:=256) (e:=165) (n:=20) (by kernel_rfl) (by kernel_rfl) Tryz.underlying256 Tryz.underlying165 (by kernel_rfl) (by kernel_rfl) (Lib.laidMet.reads h' hm)
theorem zNi:Tryz.f3.params.toList.all (VE.flat Tryz.prog 7)=true:=by
 rw [Tryz.params3];kernel_rfl
theorem zxf (H:Type) (enc:TypeId×Value→H) (W:World) (base:Nat) (args:Array Value) (ds gs:List (DataW H)) (before:List MemPlace)
  (hval:∀(j:Nat) t v,Tryz.f3.params[j]? =some t→args[j]? =some v→Value.okWide Tryz.prog W .any base t v)
  (hW:DataW.Whole enc Tryz.prog Tryz.f3.params.toList Rows.numberFormsSpec.vars false W args.toList ds gs before) (hL:laidMetH Tryz.prog Rows.numberFormsRow.laid W) (hsh:W.ShapedOpen Tryz.prog):
  Calls Tryz.prog 3 args W fun e W'=>∃v,e= .returned v∧Rows.numberFormsSpec.post enc Tryz.prog Tryz.f3 false true false false W args v W':=by
 have hW':=hW;obtain ⟨p,q,hA0,hV,rfl,hfz,hnd⟩:=hW;have hA:DataW.TrodAll enc Tryz.prog W 0 (fun _=>true) true Tryz.f3.params.toList args.toList ds p:=hA0;rw [Tryz.params3] at hA;obtain ⟨ls,hs,ha,hlen⟩:=VE.args_shp (n:=7) (Ts:=VE.formsT) (by kernel_rfl) hA;obtain ⟨d0,d1,d2,hds⟩:∃d0 d1 d2,ds=[d0,d1,d2]:=by
  match ds,hlen with
  | [d0,d1,d2],_=>exact ⟨d0,d1,d2,rfl⟩
 obtain ⟨rfl,rfl⟩:=trodVars_none hV;obtain ⟨m,hm⟩:=Tryz.s1_3 W hsh;have hp:=VE.J2.law hm (zMT hL) hs;rw [←ha] at hp;have hp':VE.PureC (VE.J1.Λ W) 468 (VE.argsAV (VE.J1.Λ W).P 7 Tryz.f3.params.toList ds) (.bool true):=by
  rw [Tryz.params3];exact hp
 exact VE.law_calls (Λ:=VE.J1.Λ W) (n:=468) (k:=7) (fn:=Tryz.f3) (s:=Rows.numberFormsSpec) (tb:=4) hp' rfl Tryz.func3 rfl (by decide) hval hW' rfl zNi (by rw [hds];rfl) (by kernel_rfl) Tryz.underlying4
set_option maxRecDepth 10000 in
noncomputable def zfZ (os:Os):World:=
 let N:=(World.settled Tryz.prog os).heap.size
 let w0:=World.holding Tryz.prog os ⟨#[.cells #[.string ⟨#[105,110,118,97,108,105,100,32,115,121,110,116,97,120]⟩] 268,.cells #[.string ⟨#[118,97,108,117,101,32,111,117,116,32,111,102,32,114,97,110,103,101]⟩] 268],#[],[]⟩
 let put (h:Array Obj) (g:Nat) (cs:Array Value):Array Obj:=h.modify g fun
  | .cells _ t frozen=> .cells cs t frozen
  | o=>o
 let h3:=put w0.heap 6 (Lib.pow10Tab.map fun z=>Value.int .u64 z).toArray
 let h4:=put h3 4 #[.iface 266 (.pointer (some ⟨N,0,none⟩))]
 let h5:=put h4 5 #[.iface 266 (.pointer (some ⟨N+1,0,none⟩))]
 let h6:=put h5 7 (Lib.firstTab.map fun z=>Value.int .u8 z).toArray
 let h7:=put h6 8 ((List.range 16).flatMap fun i=>[Value.int .u8 (Lib.accLo i),Value.int .u8 (Lib.accHi i)]).toArray
 let h8:=put h7 9 (([0,1,28,2,29,14,24,3,30,22,20,15,25,17,4,8,31,27,13,23,21,19,16,7,26,12,18,6,11,5,10,9]:List Int).map fun z=>Value.int .u8 z).toArray
 let h9:=put h8 10 (([0,1,56,2,57,49,28,3,61,58,42,50,38,29,17,4,62,47,59,36,45,43,51,22,53,39,33,30,24,18,12,5,63,55,48,27,60,41,37,16,46,35,44,21,52,32,23,11,54,26,40,15,34,20,31,10,25,14,19,9,13,8,7,6]:List Int).map fun z=>Value.int .u8 z).toArray
 {w0 with heap:=h9}
noncomputable abbrev N0:Nat:=(World.settled Tryz.prog default).heap.size
abbrev wargs:Array Value:=#[.string ⟨#[]⟩,.agg #[.int .i64 0,.int .i64 0],.string ⟨#[]⟩]
set_option maxRecDepth 1000000 in
theorem zyz (os:Os) (args:Array Value):laidMet Tryz.prog Rows.numberFormsRow.laid ((zfZ os).forCall (fun _ _=>0) ⟨#[],args,[]⟩).memory:=
 (LaidIn.of_run [6,4,5,7,8,9,10,N0,N0+1] 8 (by kernel_rfl) (by kernel_rfl) (by kernel_rfl) (by kernel_rfl)).met
theorem zos (os:Os) {H:Type} (enc:TypeId×Value→H):
  (OpenSpec.ofChange Rows.numberFormsSpec).preRow enc Tryz.prog Tryz.f3 Rows.numberFormsRow.domain false Rows.numberFormsRow.laid ((zfZ os).forCall (fun _ _=>0) ⟨#[],wargs,[]⟩).memory wargs:=by
 have hw:(DataW.whole enc Tryz.prog ((zfZ os).forCall (fun _ _=>0) ⟨#[],wargs,[]⟩).memory Tryz.f3.params.toList Rows.numberFormsSpec.vars false wargs.toList 8).map (fun x=>(x.1,x.2.1))=
   some ([.lit (.string []),.agg [.lit (.int .i64 0),.lit (.int .i64 0)],.lit (.string [])],[]):=by kernel_rfl
 obtain ⟨⟨x1,x2,x3⟩,hx,hx1⟩:=Option.map_eq_some_iff.1 hw;simp only [Prod.mk.injEq] at hx1;obtain ⟨rfl,rfl⟩:=hx1;exact OpenSpec.preRow_of_cond 8 hx (by kernel_rfl) (fun k hk=>by cases hk) (by kernel_rfl) (zyz os _)
set_option maxRecDepth 100000 in
theorem zFE (os:Os) (started:os.Started) (H:Type) (enc:TypeId×Value→H) (F:Stop.Interp):
  ReturnsInHanded {} Tryz.checked os 3 .any ((OpenSpec.ofChange Rows.numberFormsSpec).preRow enc Tryz.prog Tryz.f3 Rows.numberFormsRow.domain false Rows.numberFormsRow.laid) (((OpenSpec.ofChange Rows.numberFormsSpec).at F).post enc Tryz.prog Tryz.f3 false true false false):=by
 refine returnsInHanded_of_row (C:=Tryz.checked) (s:=OpenSpec.ofChange Rows.numberFormsSpec) own started (by kernel_rfl) Tryz.func3
  (witness_row_atRef (enc:=enc) (C:=Tryz.checked) false (zfZ os) wargs rfl (by kernel_rfl) (by kernel_rfl) (by kernel_rfl) (zos os enc)) ?_
 intro W base args ds gs before hval hW _ _ _ hL hsh _;exact zxf H enc W base args ds gs before hval hW hL hsh
theorem zQv:Rows.NumberFormsSaid:=
 OpenClaim.holds_of_cond 3 Tryz.f3 rfl rfl rfl rfl rfl rfl rfl ⟨rfl,rfl,rfl,rfl,rfl⟩ rfl rfl rfl rfl rfl (by kernel_rfl) Tryz.func3 (by kernel_rfl)
  (of_decide_eq_true (by kernel_rfl)) (by unfold Func.isWrapper;first | (rw [if_pos (by decide+kernel)];kernel_rfl) | (rw [if_neg (by decide+kernel)];exact ⟨rfl,rfl⟩))
  (fun os started H enc _ F=>by rw [OpenClaim.pre_eq_preRow];exact zFE os started H enc F)
theorem ziI (f:FuncId) (fn:Func) (hf:Tryz.pinned.checked.prog.funcNamed "lenslet/lensletlaw01.NumberForms"=some f) (hfn:Tryz.pinned.checked.prog.funcs[f]? =some fn):
  true=Tryz.pinned.checked.prog.looks []∧∀(j:Nat) t,fn.params[j]? =some t→Tryz.pinned.checked.prog.wantsStandIn t=false:=by
 obtain rfl:f=3:=Option.some.inj ((show Tryz.prog.funcNamed "lenslet/lensletlaw01.NumberForms"=some 3 by kernel_rfl).symm.trans hf) |>.symm;obtain rfl:fn=Tryz.f3:=(Option.some.inj (Tryz.func3.symm.trans hfn)).symm;refine ⟨by kernel_rfl,fun j t ht=>?_⟩;rw [Tryz.params3] at ht;have ht:t=9∨t=22∨t=23:=by
  have:=Array.mem_of_getElem? ht
  simpa using this
 rcases ht with rfl | rfl | rfl
 ·exact (show Tryz.prog.wantsStandIn 9=false by kernel_rfl)
 ·exact (show Tryz.prog.wantsStandIn 22=false by kernel_rfl)
 ·exact (show Tryz.prog.wantsStandIn 23=false by kernel_rfl)
theorem card:Rows.NumberFormsCardSaid:=
 Claim7.holds_tied_plain_at .later [] _ _ _ _ zQv (fun _ h=>by cases h) (by kernel_rfl) (fun _ h=>by cases h) numberForms_row_tie rfl ⟨rfl,rfl⟩ (by kernel_rfl) rfl ziI (by kernel_rfl)
end Go.Proofs.YtkhmakhdoedjiaaGreatDoor.numberForms
