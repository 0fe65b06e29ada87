import Derived.Test.YtlkgmaenobiooaaGreatDoorCards
import Derived.Test.YtlkgmaenobiooaaGreatDoorTie
import Derived.WalkKit
import Derived.ProofKit
import Derived.OpenShut
import Derived.Deep.DeepHandedRow
import Derived.Deep.DeepWitnessRowRef
import Derived.Lib.LaidTab
import Derived.Lib.LaidIn
import Derived.Lib.LaidU8
import Derived.Test.YtlkgmaenobiooaaGreatDoorTbe
set_option linter.all false
set_option maxRecDepth 100000
set_option maxRecDepth 1000000
open Go renaming TypeId→yt,Value→yf,World→yh
open Option.some renaming inj→xQ
namespace Go.Proofs.YtlkgmaenobiooaaGreatDoor.Uf
open Go.ChangeShapes Go.WideShapes Go.ChangeAt Go.RowKit
def own:ownKnob Tryz.prog.godebug=none:=by kernel_rfl
def zE {P:Program} {W:yh} {name:String} {k:IntKind} {zs:List Int} {g:Nat} {t e:yt} {n:Nat}
  (hg:P.globalNamed name=some g) (Bx:(P.globals[g]?).map (·.type)=some t) (ht:P.underlying t=some (.array n e)) (he:P.underlying e=some (.int k)) (By:P.cellsOf e=1) (eh:P.cellsOf t=n)
  (h:Lib.VarReads P W name (Lib.tabData k zs)):Lib.TabIs P W name k zs:=by
 obtain ⟨g',t',cs,bk,p,rT,lK,AX,hd⟩:=h;obtain rfl:=xQ (hg.symm.trans rT);obtain rfl:=xQ (Bx.symm.trans lK);unfold Lib.TabIs;rw [AX,<-Lib.cells_of_tab ht he By eh hd]
def table {W:yh} (h:laidMetH Tryz.prog Rows.numberBoxesRow.laid W):Lib.TabIs Tryz.prog W "internal/strconv.uint64pow10" .u64 Lib.pow10Tab:=
 have h':laidMet Tryz.prog Rows.numberBoxesRow.laid W:=h;have hm:("internal/strconv.uint64pow10",(Lib.tabData .u64 Lib.pow10Tab:DataW Unit))∈Rows.numberBoxesRow.laid:= .tail _ (.tail _ (.head _))
 zE (g:=6) (t:=292) (e:=202) (n:=20) (by kernel_rfl) (by kernel_rfl) Tryz.underlying292 Tryz.underlying202 (by kernel_rfl) (by kernel_rfl) (Lib.laidMet.reads h' hm)
def An:Tryz.f3.params.toList.all (VE.flat Tryz.prog 7)=true:=by
 rw [Tryz.params3];kernel_rfl
def zM (H:Type) (enc:yt×yf->H) (W:yh) (base:Nat) (args:Array yf) (ds gs:List (DataW H)) (before:List MemPlace)
  (aM:∀(j:Nat) t v,Tryz.f3.params[j]? =some t->args[j]? =some v->Value.okWide Tryz.prog W .any base t v)
  (hW:DataW.Whole enc Tryz.prog Tryz.f3.params.toList Rows.numberBoxesSpec.vars false W args.toList ds gs before) (hL:laidMetH Tryz.prog Rows.numberBoxesRow.laid W) (eV:W.ShapedOpen Tryz.prog):
  Calls Tryz.prog 3 args W fun e W'=>∃v,e= .returned v/\Rows.numberBoxesSpec.post enc Tryz.prog Tryz.f3 false true false false W args v W':=by
 have Bz:=hW;obtain ⟨p,q,BA,hV,rfl,lG,jI⟩:=hW;have hA:DataW.TrodAll enc Tryz.prog W 0 (fun _=>true) true Tryz.f3.params.toList args.toList ds p:=BA;rw [Tryz.params3] at hA;obtain ⟨ls,hs,ha,hlen⟩:=VE.Gd (n:=7) (Ts:=VE.Lq) (by kernel_rfl) hA;obtain ⟨d0,d1,mY⟩:∃d0 d1,ds=[d0,d1]:=by
  match ds,hlen with
  | [d0,d1],_=>exact ⟨d0,d1,rfl⟩
 obtain ⟨rfl,rfl⟩:=trodVars_none hV;obtain ⟨m,hm⟩:=Tryz.s1_3 W eV;have hp:=VE.J2.law hm (table hL) hs;rw [<-ha] at hp;have aw:VE.dF (VE.J1.O W) 453 (VE.ot (VE.J1.O W).P 7 Tryz.f3.params.toList ds) (.bool true):=by
  rw [Tryz.params3];exact hp
 exact VE.Kf (O:=VE.J1.O W) (n:=453) (k:=7) (fn:=Tryz.f3) (s:=Rows.numberBoxesSpec) (tb:=4) aw rfl Tryz.func3 rfl (by decide) aM Bz rfl An (by rw [mY];rfl) (by kernel_rfl) Tryz.underlying4
set_option maxRecDepth 10000 in
noncomputable def gV (os:Os):yh:=
 let N:=(World.settled Tryz.prog os).heap.size
 let w0:=World.holding Tryz.prog os ⟨#[.cells #[.string ⟨#[105,110,118,97,108,105,100,32,115,121,110,116,97,120]⟩] 300,.cells #[.string ⟨#[118,97,108,117,101,32,111,117,116,32,111,102,32,114,97,110,103,101]⟩] 300],#[],[]⟩
 let put (h:Array Obj) (g:Nat) (cs:Array yf):Array Obj:=h.modify g fun
  | .cells _ t frozen=> .cells cs t frozen
  | o=>o
 let h3:=put w0.heap 6 (Lib.pow10Tab.map fun z=>Value.int .u64 z).toArray
 let h4:=put h3 4 #[.iface 298 (.pointer (some ⟨N,0,none⟩))]
 let h5:=put h4 5 #[.iface 298 (.pointer (some ⟨N+1,0,none⟩))]
 let h6:=put h5 7 (Lib.firstTab.map fun z=>Value.int .u8 z).toArray
 let h7:=put h6 8 ((List.range 16).flatMap fun i=>[Value.int .u8 (Lib.accLo i),Value.int .u8 (Lib.accHi i)]).toArray
 let h8:=put h7 9 (([0,1,28,2,29,14,24,3,30,22,20,15,25,17,4,8,31,27,13,23,21,19,16,7,26,12,18,6,11,5,10,9]:List Int).map fun z=>Value.int .u8 z).toArray
 let h9:=put h8 10 (([0,1,56,2,57,49,28,3,61,58,42,50,38,29,17,4,62,47,59,36,45,43,51,22,53,39,33,30,24,18,12,5,63,55,48,27,60,41,37,16,46,35,44,21,52,32,23,11,54,26,40,15,34,20,31,10,25,14,19,9,13,8,7,6]:List Int).map fun z=>Value.int .u8 z).toArray
 {w0 with heap:=h9}
noncomputable abbrev N0:Nat:=(World.settled Tryz.prog default).heap.size
abbrev fE:Array yf:=#[.agg #[.string ⟨#[]⟩,.string ⟨#[]⟩,.string ⟨#[]⟩,.string ⟨#[]⟩],.agg #[.string ⟨#[]⟩,.string ⟨#[]⟩,.string ⟨#[]⟩,.string ⟨#[]⟩]]
set_option maxRecDepth 1000000 in
def zN (os:Os) (args:Array yf):laidMet Tryz.prog Rows.numberBoxesRow.laid ((gV os).forCall (fun _ _=>0) ⟨#[],args,[]⟩).memory:=
 (LaidIn.of_run [6,4,5,7,8,9,10,N0,N0+1] 8 (by kernel_rfl) (by kernel_rfl) (by kernel_rfl) (by kernel_rfl)).met
def zF (os:Os) {H:Type} (enc:yt×yf->H):
  (OpenSpec.ofChange Rows.numberBoxesSpec).preRow enc Tryz.prog Tryz.f3 Rows.numberBoxesRow.domain false Rows.numberBoxesRow.laid ((gV os).forCall (fun _ _=>0) ⟨#[],fE,[]⟩).memory fE:=by
 have hw:(DataW.whole enc Tryz.prog ((gV os).forCall (fun _ _=>0) ⟨#[],fE,[]⟩).memory Tryz.f3.params.toList Rows.numberBoxesSpec.vars false fE.toList 8).map (fun x=>(x.1,x.2.1))=
   some ([.agg [.agg [.lit (.string []),.lit (.string [])],.agg [.lit (.string []),.lit (.string [])]],.agg [.agg [.lit (.string []),.lit (.string [])],.agg [.lit (.string []),.lit (.string [])]]],[]):=by kernel_rfl
 obtain ⟨⟨x1,x2,x3⟩,hx,n7⟩:=Option.map_eq_some_iff.1 hw;simp only [Prod.mk.injEq] at n7;obtain ⟨rfl,rfl⟩:=n7;exact OpenSpec.preRow_of_cond 8 hx (by kernel_rfl) (fun k hk=>by cases hk) (by kernel_rfl) (zN os _)
set_option maxRecDepth 100000 in
def lifted (os:Os) (started:os.Started) (H:Type) (enc:yt×yf->H) (F:Stop.Interp):
  ReturnsInHanded {} Tryz.checked os 3 .any ((OpenSpec.ofChange Rows.numberBoxesSpec).preRow enc Tryz.prog Tryz.f3 Rows.numberBoxesRow.domain false Rows.numberBoxesRow.laid) (((OpenSpec.ofChange Rows.numberBoxesSpec).at F).post enc Tryz.prog Tryz.f3 false true false false):=by
 refine returnsInHanded_of_row (C:=Tryz.checked) (s:=OpenSpec.ofChange Rows.numberBoxesSpec) own started (by kernel_rfl) Tryz.func3
  (witness_row_atRef (enc:=enc) (C:=Tryz.checked) false (gV os) fE rfl (by kernel_rfl) (by kernel_rfl) (by kernel_rfl) (zF os enc)) ?_
 intro W base args ds gs before aM hW _ _ _ hL eV _;exact zM H enc W base args ds gs before aM hW hL eV
end Go.Proofs.YtlkgmaenobiooaaGreatDoor.Uf
