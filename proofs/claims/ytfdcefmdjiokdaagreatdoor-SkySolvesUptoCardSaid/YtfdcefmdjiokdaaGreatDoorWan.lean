import Derived.Test.YtfdcefmdjiokdaaGreatDoorCards
import Derived.LaidByTextLater
import Derived.SevenTiedAt
import Derived.LaidSub
import Derived.LaidOnce
import Derived.WalkKit
import Derived.ProofKit
import Derived.OpenShut
import Derived.Deep.DeepHandedRow
import Derived.Deep.DeepWitnessRowRef
import Derived.Lib.LaidTab
import Derived.Lib.LaidIn
import Derived.Lib.LaidU8
import Derived.Test.YtfdcefmdjiokdaaGreatDoorWam
set_option linter.all false
set_option maxRecDepth 100000
set_option maxRecDepth 1000000
open Go renaming DataW->xW,TypeId->yL,Value->yr,World->yt
open Option.some renaming inj->uU
namespace Go.Proofs.YtfdcefmdjiokdaaGreatDoor.skySolves
open Go.ChangeShapes Go.WideShapes Go.ChangeAt Go.RowKit
def own:ownKnob Tryz.prog.godebug=none:=by kernel_rfl
def apJ{P:Program}{W:yt}{name:String}{k:IntKind}{zs:List Int}{g:Nat}{t e:yL}{n:Nat}(hg:P.globalNamed name=some g)(hty:(P.globals[g]?).map (·.type)=some t)(ht:P.underlying t=some (.array n e))(he:P.underlying e=some (.int k))(hce:P.cellsOf e=1)(jF:P.cellsOf t=n)(h:Lib.VarReads P W name (Lib.tabData k zs)):Lib.TabIs P W name k zs:=by
 obtain⟨g',t',cs,bA,p,Ik,DE,aFY,hd⟩:=h;obtain rfl:=uU (hg.symm.trans Ik);obtain rfl:=uU (hty.symm.trans DE);unfold Lib.TabIs;rw[aFY,<-Lib.cells_of_tab ht he hce jF hd]
def table{W:yt}(h:laidMetH Tryz.prog Rows.skySolvesRow.laid W):Lib.TabIs Tryz.prog W "internal/strconv.uint64pow10" .u64 Lib.pow10Tab:=
 have h':laidMet Tryz.prog Rows.skySolvesRow.laid W:=h;have hm:("internal/strconv.uint64pow10",(Lib.tabData .u64 Lib.pow10Tab:xW Unit))∈Rows.skySolvesRow.laid:=.tail _ (.tail _ (.head _))
 apJ (g:=6) (t:=344) (e:=266) (n:=20) (by kernel_rfl) (by kernel_rfl) Tryz.underlying344 Tryz.underlying266 (by kernel_rfl) (by kernel_rfl) (Lib.laidMet.reads h' hm)
def aDi:Tryz.f3.params.toList.all (VE.flat Tryz.prog 7)=true:=by
 rw[Tryz.params3];kernel_rfl
def one_le{H:Type}(d:xW H):1<=Rows.uptoBulk d:=by
 cases d with
 | lit l=>cases l<;>simp[Rows.uptoBulk]
 | nil=>simp[Rows.uptoBulk]
 | ptr d=>simp[Rows.uptoBulk]
 | slice ma spare=>simp[Rows.uptoBulk]
 | agg parts=>simp[Rows.uptoBulk]
 | iface t d=>simp[Rows.uptoBulk]
 | map entries=>simp[Rows.uptoBulk]
 | held h=>simp[Rows.uptoBulk]
def length_le{H:Type}(l:List (xW H)):l.length<=Rows.uptoBulkAll l:=by
 induction l with
 | nil=>simp[Rows.uptoBulkAll]
 | cons x r ih=>have:=one_le x;simp only[Rows.uptoBulkAll,List.length_cons];omega
def avG(H:Type)(enc:yL×yr->H)(W:yt)(base:Nat)(args:Array yr)(ds gs:List (xW H))(before:List MemPlace)(aR:∀(j:Nat) t v,Tryz.f3.params[j]? =some t->args[j]? =some v->Value.okWide Tryz.prog W .any base t v)(hW:DataW.Whole enc Tryz.prog Tryz.f3.params.toList Rows.skySolvesSpec.vars false W args.toList ds gs before)(hk:Rows.uptoSmall H (ds++gs)=true)(hL:laidMetH Tryz.prog Rows.skySolvesRow.laid W)(jU:W.ShapedOpen Tryz.prog):
  Calls Tryz.prog 3 args W fun e W'=>∃v,e=.returned v/\Rows.skySolvesSpec.post enc Tryz.prog Tryz.f3 false true false false W args v W':=by
 have hW':=hW;obtain⟨p,q,hA0,hV,rfl,kG,nK⟩:=hW;have hA:DataW.TrodAll enc Tryz.prog W 0 (fun _=>true) true Tryz.f3.params.toList args.toList ds p:=hA0;rw[Tryz.params3] at hA;obtain⟨ls,hs,ha,hlen⟩:=VE.ahs (n:=7) (Ts:=VE.El) (by kernel_rfl) hA;obtain⟨d0,d1,d2,DU⟩:∃d0 d1 d2,ds=[d0,d1,d2]:=by
  match ds,hlen with
  | [d0,d1,d2],_=>exact⟨d0,d1,d2,rfl⟩
 obtain⟨rfl,rfl⟩:=trodVars_none hV;obtain⟨m,hm⟩:=Tryz.s1_3 W jU;have hB:∀x k cs,(VE.EO VE.El ls).head? =some (.aF x k cs)->k<=1048576:=fun x k cs h=>by
  rw[<-ha,DU] at h;obtain⟨el,sp,he,rfl⟩:=VE.ayi (n:=6) Tryz.underlying22 (uU h);have h1:Rows.uptoBulkAll (ds++([]:List (xW H)))<=1048576:=of_decide_eq_true hk;rw[List.append_nil,DU,he] at h1;have h2:=length_le el;simp only[Rows.uptoBulkAll,Rows.uptoBulk] at h1;omega
 have hp:=VE.J2.law hm (table hL) hs hB;rw[<-ha] at hp;have aq:VE.fF (VE.J1.O W) 366 (VE.CW (VE.J1.O W).P 7 Tryz.f3.params.toList ds) (.bool true):=by
  rw[Tryz.params3];exact hp
 exact VE.arU (O:=VE.J1.O W) (n:=366) (k:=7) (fn:=Tryz.f3) (s:=Rows.skySolvesSpec) (tb:=4) aq rfl Tryz.func3 rfl (by decide) aR hW' rfl aDi (by rw[DU];rfl) (by kernel_rfl) Tryz.underlying4
set_option maxRecDepth 10000 in
noncomputable def RP(os:Os):yt:=
 let N:=(World.settled Tryz.prog os).heap.size
 let w0:=World.holding Tryz.prog os ⟨#[.cells #[.string ⟨#[105,110,118,97,108,105,100,32,115,121,110,116,97,120]⟩] 356,.cells #[.string ⟨#[118,97,108,117,101,32,111,117,116,32,111,102,32,114,97,110,103,101]⟩] 356],#[],[]⟩
 let put (h:Array Obj) (g:Nat) (cs:Array yr):Array Obj:=h.modify g fun
  | .cells _ t frozen=>.cells cs t frozen
  | o=>o
 let h3:=put w0.heap 6 (Lib.pow10Tab.map fun z=>Value.int .u64 z).toArray
 let h4:=put h3 4 #[.iface 354 (.pointer (some ⟨N,0,none⟩))]
 let h5:=put h4 5 #[.iface 354 (.pointer (some ⟨N+1,0,none⟩))]
 let h6:=put h5 7 (Lib.firstTab.map fun z=>Value.int .u8 z).toArray
 let h7:=put h6 8 ((List.range 16).flatMap fun i=>[Value.int .u8 (Lib.accLo i),Value.int .u8 (Lib.accHi i)]).toArray
 let h8:=put h7 9 (([0,1,28,2,29,14,24,3,30,22,20,15,25,17,4,8,31,27,13,23,21,19,16,7,26,12,18,6,11,5,10,9]:List Int).map fun z=>Value.int .u8 z).toArray
 let h9:=put h8 10 (([0,1,56,2,57,49,28,3,61,58,42,50,38,29,17,4,62,47,59,36,45,43,51,22,53,39,33,30,24,18,12,5,63,55,48,27,60,41,37,16,46,35,44,21,52,32,23,11,54,26,40,15,34,20,31,10,25,14,19,9,13,8,7,6]:List Int).map fun z=>Value.int .u8 z).toArray
 {w0 with heap:=h9}
noncomputable abbrev N0:Nat:=(World.settled Tryz.prog default).heap.size
abbrev Oy:Array yr:=#[.slice none 0 0,.agg #[.slice none 0 0,.slice none 0 0,.int .i64 0],.slice none 0 0]
set_option maxRecDepth 1000000 in
def avH(os:Os)(args:Array yr):laidMet Tryz.prog Rows.skySolvesRow.laid ((RP os).forCall (fun _ _=>0) ⟨#[],args,[]⟩).memory:=
 (LaidIn.of_run [6,4,5,7,8,9,10,N0,N0+1] 8 (by kernel_rfl) (by kernel_rfl) (by kernel_rfl) (by kernel_rfl)).met
def aqv(os:Os){H:Type}(enc:yL×yr->H):
  (Rows.OpenSpec.upto Rows.skySolvesSpec).preRow enc Tryz.prog Tryz.f3 Rows.skySolvesUptoRow.domain false Rows.skySolvesUptoRow.laid ((RP os).forCall (fun _ _=>0) ⟨#[],Oy,[]⟩).memory Oy:=by
 have hw:(DataW.whole enc Tryz.prog ((RP os).forCall (fun _ _=>0) ⟨#[],Oy,[]⟩).memory Tryz.f3.params.toList Rows.skySolvesSpec.vars false Oy.toList 8).map (fun x=>(x.1,x.2.1))=
   some ([.nil,.agg [.nil,.nil,.lit (.int .i64 0)],.nil],[]):=by kernel_rfl
 obtain⟨⟨x1,x2,x3⟩,hx,hx1⟩:=Option.map_eq_some_iff.1 hw;simp only[Prod.mk.injEq] at hx1;obtain⟨rfl,rfl⟩:=hx1;exact OpenSpec.preRow_of_cond 8 hx (by kernel_rfl) (fun k hk=>by cases hk;kernel_rfl) (by kernel_rfl) (avH os _)
set_option maxRecDepth 100000 in
def lifted(os:Os)(started:os.Started)(H:Type)(enc:yL×yr->H)(F:Stop.Interp):
  ReturnsInHanded {} Tryz.checked os 3 .any ((Rows.OpenSpec.upto Rows.skySolvesSpec).preRow enc Tryz.prog Tryz.f3 Rows.skySolvesUptoRow.domain false Rows.skySolvesUptoRow.laid) (((Rows.OpenSpec.upto Rows.skySolvesSpec).at F).post enc Tryz.prog Tryz.f3 false true false false):=by
 refine returnsInHanded_of_row (C:=Tryz.checked) (s:=Rows.OpenSpec.upto Rows.skySolvesSpec) own started (by kernel_rfl) Tryz.func3
  (witness_row_atRef (enc:=enc) (C:=Tryz.checked) false (RP os) Oy rfl (by kernel_rfl) (by kernel_rfl) (by kernel_rfl) (aqv os enc)) ?_
 intro W base args ds gs before aR hW _ hk _ hL jU _;exact avG H enc W base args ds gs before aR hW (hk _ rfl) hL jU
end Go.Proofs.YtfdcefmdjiokdaaGreatDoor.skySolves
