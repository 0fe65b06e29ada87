import Derived.Test.YtfdcefmdjiokdaaGreatDoorCards
import Derived.Test.YtfdcefmdjiokdaaGreatDoorTie
import Derived.WalkKit
import Derived.ProofKit
import Derived.OpenShut
import Derived.Deep.DeepHandedRow
import Derived.Deep.DeepWitnessRowRef
import Derived.Lib.LaidTab
import Derived.Lib.LaidIn
import Derived.Lib.LaidU8
import Derived.Test.YtfdcefmdjiokdaaGreatDoorUal
set_option linter.all false
set_option maxRecDepth 100000
set_option maxRecDepth 1000000
open Go renaming TypeId→yC,Value→yh,World→yi
open Option.some renaming inj→tA
namespace Go.Proofs.YtfdcefmdjiokdaaGreatDoor.skyBlends
open Go.ChangeShapes Go.WideShapes Go.ChangeAt Go.RowKit
def own:ownKnob Tryz.prog.godebug=none:=by kernel_rfl
def aff {P:Program} {W:yi} {name:String} {k:IntKind} {zs:List Int} {g:Nat} {t e:yC} {n:Nat}
  (hg:P.globalNamed name=some g) (hty:(P.globals[g]?).map (·.type)=some t) (ht:P.underlying t=some (.array n e)) (he:P.underlying e=some (.int k)) (hce:P.cellsOf e=1) (eZ:P.cellsOf t=n)
  (h:Lib.VarReads P W name (Lib.tabData k zs)):Lib.TabIs P W name k zs:=by
 obtain ⟨g',t',cs,bg,p,C7,zE,au0,hd⟩:=h;obtain rfl:=tA (hg.symm.trans C7);obtain rfl:=tA (hty.symm.trans zE);unfold Lib.TabIs;rw [au0,<-Lib.cells_of_tab ht he hce eZ hd]
def table {W:yi} (h:laidMetH Tryz.prog Rows.skyBlendsRow.laid W):Lib.TabIs Tryz.prog W "internal/strconv.uint64pow10" .u64 Lib.pow10Tab:=
 have h':laidMet Tryz.prog Rows.skyBlendsRow.laid W:=h;have hm:("internal/strconv.uint64pow10",(Lib.tabData .u64 Lib.pow10Tab:DataW Unit))∈Rows.skyBlendsRow.laid:= .tail _ (.tail _ (.head _))
 aff (g:=6) (t:=344) (e:=266) (n:=20) (by kernel_rfl) (by kernel_rfl) Tryz.underlying344 Tryz.underlying266 (by kernel_rfl) (by kernel_rfl) (Lib.laidMet.reads h' hm)
def asn:Tryz.f5.params.toList.all (VE.flat Tryz.prog 7)=true:=by
 rw [Tryz.params5];kernel_rfl
def alJ (H:Type) (enc:yC×yh->H) (W:yi) (base:Nat) (args:Array yh) (ds gs:List (DataW H)) (before:List MemPlace)
  (aG:∀(j:Nat) t v,Tryz.f5.params[j]? =some t->args[j]? =some v->Value.okWide Tryz.prog W .any base t v)
  (hW:DataW.Whole enc Tryz.prog Tryz.f5.params.toList Rows.skyBlendsSpec.vars false W args.toList ds gs before) (hL:laidMetH Tryz.prog Rows.skyBlendsRow.laid W) (jH:W.ShapedOpen Tryz.prog):
  Calls Tryz.prog 5 args W fun e W'=>∃v,e= .returned v/\Rows.skyBlendsSpec.post enc Tryz.prog Tryz.f5 false true false false W args v W':=by
 have hW':=hW;obtain ⟨p,q,Vj,hV,rfl,nP,lI⟩:=hW;have hA:DataW.TrodAll enc Tryz.prog W 0 (fun _=>true) true Tryz.f5.params.toList args.toList ds p:=Vj;rw [Tryz.params5] at hA;obtain ⟨ls,hs,ha,hlen⟩:=VE.Yq (n:=7) (Ts:=VE.Hb) (by kernel_rfl) hA;obtain ⟨d0,d1,d2,C3⟩:∃d0 d1 d2,ds=[d0,d1,d2]:=by
  match ds,hlen with
  | [d0,d1,d2],_=>exact ⟨d0,d1,d2,rfl⟩
 obtain ⟨rfl,rfl⟩:=trodVars_none hV;obtain ⟨m,hm⟩:=Tryz.s1_3 W jH;have hp:=VE.J2.law hm (table hL) hs;rw [<-ha] at hp;have an:VE.dV (VE.J1.O W) 391 (VE.sR (VE.J1.O W).P 7 Tryz.f5.params.toList ds) (.bool true):=by
  rw [Tryz.params5];exact hp
 exact VE.ahJ (O:=VE.J1.O W) (n:=391) (k:=7) (fn:=Tryz.f5) (s:=Rows.skyBlendsSpec) (tb:=4) an rfl Tryz.func5 rfl (by decide) aG hW' rfl asn (by rw [C3];rfl) (by kernel_rfl) Tryz.underlying4
set_option maxRecDepth 10000 in
noncomputable def KF (os:Os):yi:=
 let N:=(World.settled Tryz.prog os).heap.size
 let w0:=World.holding Tryz.prog os ⟨#[.cells #[.string ⟨#[105,110,118,97,108,105,100,32,115,121,110,116,97,120]⟩] 356,.cells #[.string ⟨#[118,97,108,117,101,32,111,117,116,32,111,102,32,114,97,110,103,101]⟩] 356],#[],[]⟩
 let put (h:Array Obj) (g:Nat) (cs:Array yh):Array Obj:=h.modify g fun
  | .cells _ t frozen=> .cells cs t frozen
  | o=>o
 let h3:=put w0.heap 6 (Lib.pow10Tab.map fun z=>Value.int .u64 z).toArray
 let h4:=put h3 4 #[.iface 354 (.pointer (some ⟨N,0,none⟩))]
 let h5:=put h4 5 #[.iface 354 (.pointer (some ⟨N+1,0,none⟩))]
 let h6:=put h5 7 (Lib.firstTab.map fun z=>Value.int .u8 z).toArray
 let h7:=put h6 8 ((List.range 16).flatMap fun i=>[Value.int .u8 (Lib.accLo i),Value.int .u8 (Lib.accHi i)]).toArray
 let h8:=put h7 9 (([0,1,28,2,29,14,24,3,30,22,20,15,25,17,4,8,31,27,13,23,21,19,16,7,26,12,18,6,11,5,10,9]:List Int).map fun z=>Value.int .u8 z).toArray
 let h9:=put h8 10 (([0,1,56,2,57,49,28,3,61,58,42,50,38,29,17,4,62,47,59,36,45,43,51,22,53,39,33,30,24,18,12,5,63,55,48,27,60,41,37,16,46,35,44,21,52,32,23,11,54,26,40,15,34,20,31,10,25,14,19,9,13,8,7,6]:List Int).map fun z=>Value.int .u8 z).toArray
 {w0 with heap:=h9}
noncomputable abbrev N0:Nat:=(World.settled Tryz.prog default).heap.size
abbrev H8:Array yh:=#[.slice none 0 0,.agg #[.string ⟨#[]⟩,.string ⟨#[]⟩],.agg #[.int .u8 0,.int .u8 0]]
set_option maxRecDepth 1000000 in
def alK (os:Os) (args:Array yh):laidMet Tryz.prog Rows.skyBlendsRow.laid ((KF os).forCall (fun _ _=>0) ⟨#[],args,[]⟩).memory:=
 (LaidIn.of_run [6,4,5,7,8,9,10,N0,N0+1] 8 (by kernel_rfl) (by kernel_rfl) (by kernel_rfl) (by kernel_rfl)).met
def aga (os:Os) {H:Type} (enc:yC×yh->H):
  (OpenSpec.ofChange Rows.skyBlendsSpec).preRow enc Tryz.prog Tryz.f5 Rows.skyBlendsRow.domain false Rows.skyBlendsRow.laid ((KF os).forCall (fun _ _=>0) ⟨#[],H8,[]⟩).memory H8:=by
 have hw:(DataW.whole enc Tryz.prog ((KF os).forCall (fun _ _=>0) ⟨#[],H8,[]⟩).memory Tryz.f5.params.toList Rows.skyBlendsSpec.vars false H8.toList 8).map (fun x=>(x.1,x.2.1))=
   some ([.nil,.agg [.lit (.string []),.lit (.string [])],.agg [.lit (.int .u8 0),.lit (.int .u8 0)]],[]):=by kernel_rfl
 obtain ⟨⟨x1,x2,x3⟩,hx,hx1⟩:=Option.map_eq_some_iff.1 hw;simp only [Prod.mk.injEq] at hx1;obtain ⟨rfl,rfl⟩:=hx1;exact OpenSpec.preRow_of_cond 8 hx (by kernel_rfl) (fun k hk=>by cases hk) (by kernel_rfl) (alK os _)
set_option maxRecDepth 100000 in
def lifted (os:Os) (started:os.Started) (H:Type) (enc:yC×yh->H) (F:Stop.Interp):
  ReturnsInHanded {} Tryz.checked os 5 .any ((OpenSpec.ofChange Rows.skyBlendsSpec).preRow enc Tryz.prog Tryz.f5 Rows.skyBlendsRow.domain false Rows.skyBlendsRow.laid) (((OpenSpec.ofChange Rows.skyBlendsSpec).at F).post enc Tryz.prog Tryz.f5 false true false false):=by
 refine returnsInHanded_of_row (C:=Tryz.checked) (s:=OpenSpec.ofChange Rows.skyBlendsSpec) own started (by kernel_rfl) Tryz.func5
  (witness_row_atRef (enc:=enc) (C:=Tryz.checked) false (KF os) H8 rfl (by kernel_rfl) (by kernel_rfl) (by kernel_rfl) (aga os enc)) ?_
 intro W base args ds gs before aG hW _ _ _ hL jH _;exact alJ H enc W base args ds gs before aG hW hL jH
end Go.Proofs.YtfdcefmdjiokdaaGreatDoor.skyBlends
