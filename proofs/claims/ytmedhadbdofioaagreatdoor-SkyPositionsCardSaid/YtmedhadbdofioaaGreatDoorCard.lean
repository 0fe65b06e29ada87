/- SkyPositions returns true for every input and leaves its arguments as they were. Condition: the variables that the row lists hold what the program's text lays. -/
import Derived.Test.YtmedhadbdofioaaGreatDoorCards
import Derived.Test.YtmedhadbdofioaaGreatDoorTie
import Derived.WalkKit
import Derived.ProofKit
import Derived.OpenShut
import Derived.Deep.DeepHandedRow
import Derived.Deep.DeepWitnessRowRef
import Derived.Lib.LaidTab
import Derived.Lib.LaidIn
import Derived.Lib.LaidU8
import Derived.Test.YtmedhadbdofioaaGreatDoorTbe
set_option linter.all false
set_option maxRecDepth 100000
set_option maxRecDepth 1000000
open Go renaming TypeId→yx,Value→yf,World→yi
open Option.some renaming inj→vE
namespace Go.Proofs.YtmedhadbdofioaaGreatDoor.skyPositions
open Go.ChangeShapes Go.WideShapes Go.ChangeAt Go.RowKit
theorem own:ownKnob Tryz.prog.godebug=none:=by kernel_rfl
theorem ain {P:Program} {W:yi} {name:String} {k:IntKind} {zs:List Int} {g:Nat} {t e:yx} {n:Nat}
  (hg:P.globalNamed name=some g) (hty:(P.globals[g]?).map (·.type)=some t) (ht:P.underlying t=some (.array n e)) (he:P.underlying e=some (.int k)) (hce:P.cellsOf e=1) (fR:P.cellsOf t=n)
  (h:Lib.VarReads P W name (Lib.tabData k zs)):Lib.TabIs P W name k zs:=by
 obtain ⟨g',t',cs,bB,p,DR,Aj,axy,hd⟩:=h;obtain rfl:=vE (hg.symm.trans DR);obtain rfl:=vE (hty.symm.trans Aj);unfold Lib.TabIs;rw [axy,<-Lib.cells_of_tab ht he hce fR hd]
theorem table {W:yi} (h:laidMetH Tryz.prog Rows.skyPositionsRow.laid W):Lib.TabIs Tryz.prog W "internal/strconv.uint64pow10" .u64 Lib.pow10Tab:=
 have h':laidMet Tryz.prog Rows.skyPositionsRow.laid W:=h;have hm:("internal/strconv.uint64pow10",(Lib.tabData .u64 Lib.pow10Tab:DataW Unit))∈Rows.skyPositionsRow.laid:= .tail _ (.tail _ (.head _))
 ain (g:=5) (t:=317) (e:=241) (n:=20) (by kernel_rfl) (by kernel_rfl) Tryz.underlying317 Tryz.underlying241 (by kernel_rfl) (by kernel_rfl) (Lib.laidMet.reads h' hm)
theorem auR:Tryz.f3.params.toList.all (VE.flat Tryz.prog 7)=true:=by
 rw [Tryz.params3];kernel_rfl
theorem aoy (H:Type) (enc:yx×yf->H) (W:yi) (base:Nat) (args:Array yf) (ds gs:List (DataW H)) (before:List MemPlace)
  (aQ:∀(j:Nat) t v,Tryz.f3.params[j]? =some t->args[j]? =some v->Value.okWide Tryz.prog W .any base t v)
  (hW:DataW.Whole enc Tryz.prog Tryz.f3.params.toList Rows.skyPositionsSpec.vars false W args.toList ds gs before) (hL:laidMetH Tryz.prog Rows.skyPositionsRow.laid W) (fS:W.ShapedOpen Tryz.prog):
  Calls Tryz.prog 3 args W fun e W'=>∃v,e= .returned v/\Rows.skyPositionsSpec.post enc Tryz.prog Tryz.f3 false true false false W args v W':=by
 have hW':=hW;obtain ⟨p,q,hA0,hV,rfl,n8,lX⟩:=hW;have hA:DataW.TrodAll enc Tryz.prog W 0 (fun _=>true) true Tryz.f3.params.toList args.toList ds p:=hA0;rw [Tryz.params3] at hA;obtain ⟨ls,hs,ha,hlen⟩:=VE.aaU (n:=7) (Ts:=VE.HF) (by kernel_rfl) hA;obtain ⟨d0,d1,DM⟩:∃d0 d1,ds=[d0,d1]:=by
  match ds,hlen with
  | [d0,d1],_=>exact ⟨d0,d1,rfl⟩
 obtain ⟨rfl,rfl⟩:=trodVars_none hV;obtain ⟨m,hm⟩:=Tryz.s1_3 W fS;have hp:=VE.J2.law hm (table hL) hs;rw [<-ha] at hp;have ao:VE.eX (VE.J1.O W) 378 (VE.zj (VE.J1.O W).P 7 Tryz.f3.params.toList ds) (.bool true):=by
  rw [Tryz.params3];exact hp
 exact VE.akL (O:=VE.J1.O W) (n:=378) (k:=7) (fn:=Tryz.f3) (s:=Rows.skyPositionsSpec) (tb:=4) ao rfl Tryz.func3 rfl (by decide) aQ hW' rfl auR (by rw [DM];rfl) (by kernel_rfl) Tryz.underlying4
set_option maxRecDepth 10000 in
noncomputable def Me (os:Os):yi:=
 let N:=(World.settled Tryz.prog os).heap.size
 let w0:=World.holding Tryz.prog os ⟨#[.cells #[.string ⟨#[105,110,118,97,108,105,100,32,115,121,110,116,97,120]⟩] 329,.cells #[.string ⟨#[118,97,108,117,101,32,111,117,116,32,111,102,32,114,97,110,103,101]⟩] 329],#[],[]⟩
 let put (h:Array Obj) (g:Nat) (cs:Array yf):Array Obj:=h.modify g fun
  | .cells _ t frozen=> .cells cs t frozen
  | o=>o
 let h3:=put w0.heap 5 (Lib.pow10Tab.map fun z=>Value.int .u64 z).toArray
 let h4:=put h3 3 #[.iface 327 (.pointer (some ⟨N,0,none⟩))]
 let h5:=put h4 4 #[.iface 327 (.pointer (some ⟨N+1,0,none⟩))]
 let h6:=put h5 6 (Lib.firstTab.map fun z=>Value.int .u8 z).toArray
 let h7:=put h6 7 ((List.range 16).flatMap fun i=>[Value.int .u8 (Lib.accLo i),Value.int .u8 (Lib.accHi i)]).toArray
 let h8:=put h7 8 (([0,1,28,2,29,14,24,3,30,22,20,15,25,17,4,8,31,27,13,23,21,19,16,7,26,12,18,6,11,5,10,9]:List Int).map fun z=>Value.int .u8 z).toArray
 let h9:=put h8 9 (([0,1,56,2,57,49,28,3,61,58,42,50,38,29,17,4,62,47,59,36,45,43,51,22,53,39,33,30,24,18,12,5,63,55,48,27,60,41,37,16,46,35,44,21,52,32,23,11,54,26,40,15,34,20,31,10,25,14,19,9,13,8,7,6]:List Int).map fun z=>Value.int .u8 z).toArray
 {w0 with heap:=h9}
noncomputable abbrev N0:Nat:=(World.settled Tryz.prog default).heap.size
abbrev Jk:Array yf:=#[.agg #[.slice none 0 0,.string ⟨#[]⟩,.string ⟨#[]⟩,.string ⟨#[]⟩,.string ⟨#[]⟩,.string ⟨#[]⟩,.string ⟨#[]⟩,.string ⟨#[]⟩],.agg #[.string ⟨#[]⟩,.string ⟨#[]⟩,.string ⟨#[]⟩,.string ⟨#[]⟩,.string ⟨#[]⟩,.int .i64 0]]
set_option maxRecDepth 1000000 in
theorem aoz (os:Os) (args:Array yf):laidMet Tryz.prog Rows.skyPositionsRow.laid ((Me os).forCall (fun _ _=>0) ⟨#[],args,[]⟩).memory:=
 (LaidIn.of_run [5,3,4,6,7,8,9,N0,N0+1] 8 (by kernel_rfl) (by kernel_rfl) (by kernel_rfl) (by kernel_rfl)).met
theorem ajd (os:Os) {H:Type} (enc:yx×yf->H):
  (OpenSpec.ofChange Rows.skyPositionsSpec).preRow enc Tryz.prog Tryz.f3 Rows.skyPositionsRow.domain false Rows.skyPositionsRow.laid ((Me os).forCall (fun _ _=>0) ⟨#[],Jk,[]⟩).memory Jk:=by
 have hw:(DataW.whole enc Tryz.prog ((Me os).forCall (fun _ _=>0) ⟨#[],Jk,[]⟩).memory Tryz.f3.params.toList Rows.skyPositionsSpec.vars false Jk.toList 8).map (fun x=>(x.1,x.2.1))=
   some ([.agg [.nil,.lit (.string []),.lit (.string []),.lit (.string []),.agg [.lit (.string []),.lit (.string [])],.agg [.lit (.string []),.lit (.string [])]],.agg [.agg [.agg [.lit (.string []),.lit (.string [])],.lit (.string [])],.agg [.lit (.string []),.lit (.string [])],.lit (.int .i64 0)]],[]):=by kernel_rfl
 obtain ⟨⟨x1,x2,x3⟩,hx,XG⟩:=Option.map_eq_some_iff.1 hw;simp only [Prod.mk.injEq] at XG;obtain ⟨rfl,rfl⟩:=XG;exact OpenSpec.preRow_of_cond 8 hx (by kernel_rfl) (fun k hk=>by cases hk) (by kernel_rfl) (aoz os _)
set_option maxRecDepth 100000 in
theorem lifted (os:Os) (started:os.Started) (H:Type) (enc:yx×yf->H) (F:Stop.Interp):
  ReturnsInHanded {} Tryz.checked os 3 .any ((OpenSpec.ofChange Rows.skyPositionsSpec).preRow enc Tryz.prog Tryz.f3 Rows.skyPositionsRow.domain false Rows.skyPositionsRow.laid) (((OpenSpec.ofChange Rows.skyPositionsSpec).at F).post enc Tryz.prog Tryz.f3 false true false false):=by
 refine returnsInHanded_of_row (C:=Tryz.checked) (s:=OpenSpec.ofChange Rows.skyPositionsSpec) own started (by kernel_rfl) Tryz.func3
  (witness_row_atRef (enc:=enc) (C:=Tryz.checked) false (Me os) Jk rfl (by kernel_rfl) (by kernel_rfl) (by kernel_rfl) (ajd os enc)) ?_
 intro W base args ds gs before aQ hW _ _ _ hL fS _;exact aoy H enc W base args ds gs before aQ hW hL fS
theorem said:Rows.SkyPositionsSaid:=
 OpenClaim.holds_of_cond 3 Tryz.f3 rfl rfl rfl rfl rfl rfl rfl ⟨rfl,rfl,rfl,rfl,rfl⟩ rfl rfl rfl rfl rfl (by kernel_rfl) Tryz.func3 (by kernel_rfl)
  (of_decide_eq_true (by kernel_rfl)) (by unfold Func.isWrapper;first | (rw [yI (by decide+kernel)];kernel_rfl) | (rw [yB (by decide+kernel)];exact ⟨rfl,rfl⟩))
  (fun os started H enc _ F=>by rw [OpenClaim.pre_eq_preRow];exact lifted os started H enc F)
theorem plain (f:FuncId) (fn:Func) (hf:Tryz.pinned.checked.prog.funcNamed "lenslet/lensletlaw07.SkyPositions"=some f) (lE:Tryz.pinned.checked.prog.funcs[f]? =some fn):
  true=Tryz.pinned.checked.prog.looks []/\∀(j:Nat) t,fn.params[j]? =some t->Tryz.pinned.checked.prog.wantsStandIn t=false:=by
 obtain rfl:f=3:=vE ((show Tryz.prog.funcNamed "lenslet/lensletlaw07.SkyPositions"=some 3 by kernel_rfl).symm.trans hf) |>.symm;obtain rfl:fn=Tryz.f3:=(vE (Tryz.func3.symm.trans lE)).symm;refine ⟨by kernel_rfl,fun j t ht=>?_⟩;rw [Tryz.params3] at ht;have ht:t=27\/t=31:=by
  have:=Array.mem_of_getElem? ht
  simpa using this
 rcases ht with rfl | rfl
 ·exact (show Tryz.prog.wantsStandIn 27=false by kernel_rfl)
 ·exact (show Tryz.prog.wantsStandIn 31=false by kernel_rfl)
theorem card:Rows.SkyPositionsCardSaid:=
 Claim7.holds_tied_plain_at .later [] _ _ _ _ said (fun _ h=>by cases h) (by kernel_rfl) (fun _ h=>by cases h) skyPositions_row_tie rfl ⟨rfl,rfl⟩ (by kernel_rfl) rfl plain (by kernel_rfl)
end Go.Proofs.YtmedhadbdofioaaGreatDoor.skyPositions
