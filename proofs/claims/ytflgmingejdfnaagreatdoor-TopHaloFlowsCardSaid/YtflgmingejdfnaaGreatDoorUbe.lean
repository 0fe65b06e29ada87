import Derived.Test.YtflgmingejdfnaaGreatDoorCards
import Derived.Test.YtflgmingejdfnaaGreatDoorTie
import Derived.WalkKit
import Derived.ProofKit
import Derived.OpenShut
import Derived.Deep.DeepHandedRow
import Derived.Deep.DeepWitnessRowRef
import Derived.Lib.LaidTab
import Derived.Lib.LaidIn
import Derived.Lib.LaidU8
import Derived.Test.YtflgmingejdfnaaGreatDoorUbd
set_option linter.all false
set_option maxRecDepth 100000
set_option maxRecDepth 1000000
open Go renaming TypeId→yv,Value→yf,World→yh
open Option.some renaming inj→vj
namespace Go.Proofs.YtflgmingejdfnaaGreatDoor.topHaloFlows
open Go.ChangeShapes Go.WideShapes Go.ChangeAt Go.RowKit
def own:ownKnob Tryz.prog.godebug=none:=by kernel_rfl
def RP {P:Program} {W:yh} {name:String} {k:IntKind} {zs:List Int} {g:Nat} {t e:yv} {n:Nat}
  (hg:P.globalNamed name=some g) (Zb:(P.globals[g]?).map (·.type)=some t) (ht:P.underlying t=some (.array n e)) (he:P.underlying e=some (.int k)) (Zc:P.cellsOf e=1) (fI:P.cellsOf t=n)
  (h:Lib.VarReads P W name (Lib.tabData k zs)):Lib.TabIs P W name k zs:=by
 obtain ⟨g',t',cs,bF,p,BB,r9,WO,hd⟩:=h;obtain rfl:=vj (hg.symm.trans BB);obtain rfl:=vj (Zb.symm.trans r9);unfold Lib.TabIs;rw [WO,<-Lib.cells_of_tab ht he Zc fI hd]
def table {W:yh} (h:laidMetH Tryz.prog Rows.topHaloFlowsRow.laid W):Lib.TabIs Tryz.prog W "internal/strconv.uint64pow10" .u64 Lib.pow10Tab:=
 have h':laidMet Tryz.prog Rows.topHaloFlowsRow.laid W:=h;have hm:("internal/strconv.uint64pow10",(Lib.tabData .u64 Lib.pow10Tab:DataW Unit))∈Rows.topHaloFlowsRow.laid:= .tail _ (.tail _ (.head _))
 RP (g:=3) (t:=343) (e:=267) (n:=20) (by kernel_rfl) (by kernel_rfl) Tryz.underlying343 Tryz.underlying267 (by kernel_rfl) (by kernel_rfl) (Lib.laidMet.reads h' hm)
def Vi:Tryz.f6.params.toList.all (VE.flat Tryz.prog 7)=true:=by
 rw [Tryz.params6];kernel_rfl
def Tz (H:Type) (enc:yv×yf->H) (W:yh) (base:Nat) (args:Array yf) (ds gs:List (DataW H)) (before:List MemPlace)
  (aR:∀(j:Nat) t v,Tryz.f6.params[j]? =some t->args[j]? =some v->Value.okWide Tryz.prog W .any base t v)
  (hW:DataW.Whole enc Tryz.prog Tryz.f6.params.toList Rows.topHaloFlowsSpec.vars false W args.toList ds gs before) (hL:laidMetH Tryz.prog Rows.topHaloFlowsRow.laid W) (gO:W.ShapedOpen Tryz.prog):
  Calls Tryz.prog 6 args W fun e W'=>∃v,e= .returned v/\Rows.topHaloFlowsSpec.post enc Tryz.prog Tryz.f6 false true false false W args v W':=by
 have Zd:=hW;obtain ⟨p,q,Ze,hV,rfl,mO,mo⟩:=hW;have hA:DataW.TrodAll enc Tryz.prog W 0 (fun _=>true) true Tryz.f6.params.toList args.toList ds p:=Ze;rw [Tryz.params6] at hA;obtain ⟨ls,hs,ha,hlen⟩:=VE.Tq (n:=7) (Ts:=VE.Jg) (by kernel_rfl) hA;obtain ⟨d0,BA⟩:∃d0,ds=[d0]:=by
  match ds,hlen with
  | [d0],_=>exact ⟨d0,rfl⟩
 obtain ⟨rfl,rfl⟩:=trodVars_none hV;obtain ⟨m,hm⟩:=Tryz.s1_3 W gO;have hp:=VE.J2.law hm (table hL) hs;rw [<-ha] at hp;have ao:VE.eX (VE.J1.O W) 479 (VE.sW (VE.J1.O W).P 7 Tryz.f6.params.toList ds) (.bool true):=by
  rw [Tryz.params6];exact hp
 exact VE.abf (O:=VE.J1.O W) (n:=479) (k:=7) (fn:=Tryz.f6) (s:=Rows.topHaloFlowsSpec) (tb:=4) ao rfl Tryz.func6 rfl (by decide) aR Zd rfl Vi (by rw [BA];rfl) (by kernel_rfl) Tryz.underlying4
set_option maxRecDepth 10000 in
noncomputable def Ad (os:Os):yh:=
 let N:=(World.settled Tryz.prog os).heap.size
 let w0:=World.holding Tryz.prog os ⟨#[.cells #[.string ⟨#[105,110,118,97,108,105,100,32,115,121,110,116,97,120]⟩] 359,.cells #[.string ⟨#[118,97,108,117,101,32,111,117,116,32,111,102,32,114,97,110,103,101]⟩] 359],#[],[]⟩
 let put (h:Array Obj) (g:Nat) (cs:Array yf):Array Obj:=h.modify g fun
  | .cells _ t frozen=> .cells cs t frozen
  | o=>o
 let h3:=put w0.heap 3 (Lib.pow10Tab.map fun z=>Value.int .u64 z).toArray
 let h4:=put h3 4 #[.iface 357 (.pointer (some ⟨N,0,none⟩))]
 let h5:=put h4 5 #[.iface 357 (.pointer (some ⟨N+1,0,none⟩))]
 let h6:=put h5 6 (Lib.firstTab.map fun z=>Value.int .u8 z).toArray
 let h7:=put h6 7 ((List.range 16).flatMap fun i=>[Value.int .u8 (Lib.accLo i),Value.int .u8 (Lib.accHi i)]).toArray
 let h8:=put h7 8 (([0,1,28,2,29,14,24,3,30,22,20,15,25,17,4,8,31,27,13,23,21,19,16,7,26,12,18,6,11,5,10,9]:List Int).map fun z=>Value.int .u8 z).toArray
 let h9:=put h8 9 (([0,1,56,2,57,49,28,3,61,58,42,50,38,29,17,4,62,47,59,36,45,43,51,22,53,39,33,30,24,18,12,5,63,55,48,27,60,41,37,16,46,35,44,21,52,32,23,11,54,26,40,15,34,20,31,10,25,14,19,9,13,8,7,6]:List Int).map fun z=>Value.int .u8 z).toArray
 {w0 with heap:=h9}
noncomputable abbrev N0:Nat:=(World.settled Tryz.prog default).heap.size
abbrev rH:Array yf:=#[.agg #[.slice none 0 0,.string ⟨#[]⟩,.string ⟨#[]⟩,.string ⟨#[]⟩,.string ⟨#[]⟩,.string ⟨#[]⟩,.string ⟨#[]⟩,.string ⟨#[]⟩,.string ⟨#[]⟩,.string ⟨#[]⟩,.string ⟨#[]⟩,.string ⟨#[]⟩,.string ⟨#[]⟩,.int .i8 0]]
set_option maxRecDepth 1000000 in
def TA (os:Os) (args:Array yf):laidMet Tryz.prog Rows.topHaloFlowsRow.laid ((Ad os).forCall (fun _ _=>0) ⟨#[],args,[]⟩).memory:=
 (LaidIn.of_run [3,4,5,6,7,8,9,N0,N0+1] 8 (by kernel_rfl) (by kernel_rfl) (by kernel_rfl) (by kernel_rfl)).met
def R4 (os:Os) {H:Type} (enc:yv×yf->H):
  (OpenSpec.ofChange Rows.topHaloFlowsSpec).preRow enc Tryz.prog Tryz.f6 Rows.topHaloFlowsRow.domain false Rows.topHaloFlowsRow.laid ((Ad os).forCall (fun _ _=>0) ⟨#[],rH,[]⟩).memory rH:=by
 have hw:(DataW.whole enc Tryz.prog ((Ad os).forCall (fun _ _=>0) ⟨#[],rH,[]⟩).memory Tryz.f6.params.toList Rows.topHaloFlowsSpec.vars false rH.toList 8).map (fun x=>(x.1,x.2.1))=
   some ([.agg [.agg [.nil,.lit (.string []),.lit (.string []),.lit (.string []),.agg [.lit (.string []),.lit (.string [])],.agg [.lit (.string []),.lit (.string [])]],.agg [.agg [.lit (.string []),.lit (.string [])],.lit (.string [])],.agg [.lit (.string []),.lit (.string [])],.lit (.int .i8 0)]],[]):=by kernel_rfl
 obtain ⟨⟨x1,x2,x3⟩,hx,HP⟩:=Option.map_eq_some_iff.1 hw;simp only [Prod.mk.injEq] at HP;obtain ⟨rfl,rfl⟩:=HP;exact OpenSpec.preRow_of_cond 8 hx (by kernel_rfl) (fun k hk=>by cases hk) (by kernel_rfl) (TA os _)
set_option maxRecDepth 100000 in
def lifted (os:Os) (started:os.Started) (H:Type) (enc:yv×yf->H) (F:Stop.Interp):
  ReturnsInHanded {} Tryz.checked os 6 .any ((OpenSpec.ofChange Rows.topHaloFlowsSpec).preRow enc Tryz.prog Tryz.f6 Rows.topHaloFlowsRow.domain false Rows.topHaloFlowsRow.laid) (((OpenSpec.ofChange Rows.topHaloFlowsSpec).at F).post enc Tryz.prog Tryz.f6 false true false false):=by
 refine returnsInHanded_of_row (C:=Tryz.checked) (s:=OpenSpec.ofChange Rows.topHaloFlowsSpec) own started (by kernel_rfl) Tryz.func6
  (witness_row_atRef (enc:=enc) (C:=Tryz.checked) false (Ad os) rH rfl (by kernel_rfl) (by kernel_rfl) (by kernel_rfl) (R4 os enc)) ?_
 intro W base args ds gs before aR hW _ _ _ hL gO _;exact Tz H enc W base args ds gs before aR hW hL gO
end Go.Proofs.YtflgmingejdfnaaGreatDoor.topHaloFlows
