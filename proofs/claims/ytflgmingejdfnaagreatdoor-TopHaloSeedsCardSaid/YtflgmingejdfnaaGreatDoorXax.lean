import Derived.Test.YtflgmingejdfnaaGreatDoorCards
import Derived.Test.YtflgmingejdfnaaGreatDoorTie
import Derived.WalkKit
import Derived.ProofKit
import Derived.OpenShut
import Derived.Deep.DeepHandedRow
import Derived.Deep.DeepWitnessRowRef
import Derived.Lib.LaidTab
import Derived.Lib.LaidIn
import Derived.Lib.LaidU8
import Derived.Test.YtflgmingejdfnaaGreatDoorXaw
set_option linter.all false
set_option maxRecDepth 100000
set_option maxRecDepth 1000000
open Go renaming TypeId→yp,Value→ye,World→yg
open Option.some renaming inj→vE
namespace Go.Proofs.YtflgmingejdfnaaGreatDoor.topHaloSeeds
open Go.ChangeShapes Go.WideShapes Go.ChangeAt Go.RowKit
def own:ownKnob Tryz.prog.godebug=none:=by kernel_rfl
def WL {P:Program} {W:yg} {name:String} {k:IntKind} {zs:List Int} {g:Nat} {t e:yp} {n:Nat}
  (hg:P.globalNamed name=some g) (hty:(P.globals[g]?).map (·.type)=some t) (ht:P.underlying t=some (.array n e)) (he:P.underlying e=some (.int k)) (hce:P.cellsOf e=1) (dU:P.cellsOf t=n)
  (h:Lib.VarReads P W name (Lib.tabData k zs)):Lib.TabIs P W name k zs:=by
 obtain ⟨g',t',cs,a6,p,hg',og,ajY,hd⟩:=h;obtain rfl:=vE (hg.symm.trans hg');obtain rfl:=vE (hty.symm.trans og);unfold Lib.TabIs;rw [ajY,<-Lib.cells_of_tab ht he hce dU hd]
def table {W:yg} (h:laidMetH Tryz.prog Rows.topHaloSeedsRow.laid W):Lib.TabIs Tryz.prog W "internal/strconv.uint64pow10" .u64 Lib.pow10Tab:=
 have h':laidMet Tryz.prog Rows.topHaloSeedsRow.laid W:=h;have hm:("internal/strconv.uint64pow10",(Lib.tabData .u64 Lib.pow10Tab:DataW Unit))∈Rows.topHaloSeedsRow.laid:= .tail _ (.tail _ (.head _))
 WL (g:=3) (t:=343) (e:=267) (n:=20) (by kernel_rfl) (by kernel_rfl) Tryz.underlying343 Tryz.underlying267 (by kernel_rfl) (by kernel_rfl) (Lib.laidMet.reads h' hm)
def ait:Tryz.f7.params.toList.all (VE.flat Tryz.prog 7)=true:=by
 rw [Tryz.params7];kernel_rfl
def ab6 (H:Type) (enc:yp×ye->H) (W:yg) (base:Nat) (args:Array ye) (ds gs:List (DataW H)) (before:List MemPlace)
  (bC:∀(j:Nat) t v,Tryz.f7.params[j]? =some t->args[j]? =some v->Value.okWide Tryz.prog W .any base t v)
  (hW:DataW.Whole enc Tryz.prog Tryz.f7.params.toList Rows.topHaloSeedsSpec.vars false W args.toList ds gs before) (hL:laidMetH Tryz.prog Rows.topHaloSeedsRow.laid W) (mc:W.ShapedOpen Tryz.prog):
  Calls Tryz.prog 7 args W fun e W'=>∃v,e= .returned v/\Rows.topHaloSeedsSpec.post enc Tryz.prog Tryz.f7 false true false false W args v W':=by
 have hW':=hW;obtain ⟨p,q,hA0,hV,rfl,jQ,iF⟩:=hW;have hA:DataW.TrodAll enc Tryz.prog W 0 (fun _=>true) true Tryz.f7.params.toList args.toList ds p:=hA0;rw [Tryz.params7] at hA;obtain ⟨ls,hs,ha,hlen⟩:=VE.Oc (n:=7) (Ts:=VE.AK) (by kernel_rfl) hA;obtain ⟨d0,d1,d2,hds⟩:∃d0 d1 d2,ds=[d0,d1,d2]:=by
  match ds,hlen with
  | [d0,d1,d2],_=>exact ⟨d0,d1,d2,rfl⟩
 obtain ⟨rfl,rfl⟩:=trodVars_none hV;obtain ⟨m,hm⟩:=Tryz.s1_3 W mc;have hp:=VE.J2.law hm (table hL) hs;rw [<-ha] at hp;have ai:VE.dO (VE.J1.O W) 480 (VE.nD (VE.J1.O W).P 7 Tryz.f7.params.toList ds) (.bool true):=by
  rw [Tryz.params7];exact hp
 exact VE.Y3 (O:=VE.J1.O W) (n:=480) (k:=7) (fn:=Tryz.f7) (s:=Rows.topHaloSeedsSpec) (tb:=4) ai rfl Tryz.func7 rfl (by decide) bC hW' rfl ait (by rw [hds];rfl) (by kernel_rfl) Tryz.underlying4
set_option maxRecDepth 10000 in
noncomputable def DR (os:Os):yg:=
 let N:=(World.settled Tryz.prog os).heap.size
 let w0:=World.holding Tryz.prog os ⟨#[.cells #[.string ⟨#[105,110,118,97,108,105,100,32,115,121,110,116,97,120]⟩] 359,.cells #[.string ⟨#[118,97,108,117,101,32,111,117,116,32,111,102,32,114,97,110,103,101]⟩] 359],#[],[]⟩
 let put (h:Array Obj) (g:Nat) (cs:Array ye):Array Obj:=h.modify g fun
  | .cells _ t frozen=> .cells cs t frozen
  | o=>o
 let h3:=put w0.heap 3 (Lib.pow10Tab.map fun z=>Value.int .u64 z).toArray
 let h4:=put h3 4 #[.iface 357 (.pointer (some ⟨N,0,none⟩))]
 let h5:=put h4 5 #[.iface 357 (.pointer (some ⟨N+1,0,none⟩))]
 let h6:=put h5 6 (Lib.firstTab.map fun z=>Value.int .u8 z).toArray
 let h7:=put h6 7 ((List.range 16).flatMap fun i=>[Value.int .u8 (Lib.accLo i),Value.int .u8 (Lib.accHi i)]).toArray
 let h8:=put h7 8 (([0,1,28,2,29,14,24,3,30,22,20,15,25,17,4,8,31,27,13,23,21,19,16,7,26,12,18,6,11,5,10,9]:List Int).map fun z=>Value.int .u8 z).toArray
 let h9:=put h8 9 (([0,1,56,2,57,49,28,3,61,58,42,50,38,29,17,4,62,47,59,36,45,43,51,22,53,39,33,30,24,18,12,5,63,55,48,27,60,41,37,16,46,35,44,21,52,32,23,11,54,26,40,15,34,20,31,10,25,14,19,9,13,8,7,6]:List Int).map fun z=>Value.int .u8 z).toArray
 {w0 with heap:=h9}
noncomputable abbrev N0:Nat:=(World.settled Tryz.prog default).heap.size
abbrev BZ:Array ye:=#[.int .i64 0,.slice none 0 0,.slice none 0 0]
set_option maxRecDepth 1000000 in
def ab7 (os:Os) (args:Array ye):laidMet Tryz.prog Rows.topHaloSeedsRow.laid ((DR os).forCall (fun _ _=>0) ⟨#[],args,[]⟩).memory:=
 (LaidIn.of_run [3,4,5,6,7,8,9,N0,N0+1] 8 (by kernel_rfl) (by kernel_rfl) (by kernel_rfl) (by kernel_rfl)).met
def XC (os:Os) {H:Type} (enc:yp×ye->H):
  (OpenSpec.ofChange Rows.topHaloSeedsSpec).preRow enc Tryz.prog Tryz.f7 Rows.topHaloSeedsRow.domain false Rows.topHaloSeedsRow.laid ((DR os).forCall (fun _ _=>0) ⟨#[],BZ,[]⟩).memory BZ:=by
 have hw:(DataW.whole enc Tryz.prog ((DR os).forCall (fun _ _=>0) ⟨#[],BZ,[]⟩).memory Tryz.f7.params.toList Rows.topHaloSeedsSpec.vars false BZ.toList 8).map (fun x=>(x.1,x.2.1))=
   some ([.lit (.int .i64 0),.nil,.nil],[]):=by kernel_rfl
 obtain ⟨⟨x1,x2,x3⟩,hx,Li⟩:=Option.map_eq_some_iff.1 hw;simp only [Prod.mk.injEq] at Li;obtain ⟨rfl,rfl⟩:=Li;exact OpenSpec.preRow_of_cond 8 hx (by kernel_rfl) (fun k hk=>by cases hk) (by kernel_rfl) (ab7 os _)
set_option maxRecDepth 100000 in
def lifted (os:Os) (started:os.Started) (H:Type) (enc:yp×ye->H) (F:Stop.Interp):
  ReturnsInHanded {} Tryz.checked os 7 .any ((OpenSpec.ofChange Rows.topHaloSeedsSpec).preRow enc Tryz.prog Tryz.f7 Rows.topHaloSeedsRow.domain false Rows.topHaloSeedsRow.laid) (((OpenSpec.ofChange Rows.topHaloSeedsSpec).at F).post enc Tryz.prog Tryz.f7 false true false false):=by
 refine returnsInHanded_of_row (C:=Tryz.checked) (s:=OpenSpec.ofChange Rows.topHaloSeedsSpec) own started (by kernel_rfl) Tryz.func7
  (witness_row_atRef (enc:=enc) (C:=Tryz.checked) false (DR os) BZ rfl (by kernel_rfl) (by kernel_rfl) (by kernel_rfl) (XC os enc)) ?_
 intro W base args ds gs before bC hW _ _ _ hL mc _;exact ab6 H enc W base args ds gs before bC hW hL mc
end Go.Proofs.YtflgmingejdfnaaGreatDoor.topHaloSeeds
