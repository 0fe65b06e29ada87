import Derived.Test.YtpdlhopnhojpjaaGreatDoorCards
import Derived.Test.YtpdlhopnhojpjaaGreatDoorTie
import Derived.WalkKit
import Derived.ProofKit
import Derived.OpenShut
import Derived.Deep.DeepHandedRow
import Derived.Deep.DeepWitnessRowRef
import Derived.Lib.LaidTab
import Derived.Lib.LaidIn
import Derived.Lib.LaidU8
import Derived.Test.YtpdlhopnhojpjaaGreatDoorTar
set_option linter.all false
set_option maxRecDepth 100000
set_option maxRecDepth 1000000
open Go renaming TypeId→yH,Value→yj,World→ym
open Option.some renaming inj→th
namespace Go.Proofs.YtpdlhopnhojpjaaGreatDoor.skyTomography
open Go.ChangeShapes Go.WideShapes Go.ChangeAt Go.RowKit
def own:ownKnob Tryz.prog.godebug=none:=by kernel_rfl
def alr {P:Program} {W:ym} {name:String} {k:IntKind} {zs:List Int} {g:Nat} {t e:yH} {n:Nat}
  (hg:P.globalNamed name=some g) (hty:(P.globals[g]?).map (·.type)=some t) (ht:P.underlying t=some (.array n e)) (he:P.underlying e=some (.int k)) (hce:P.cellsOf e=1) (eZ:P.cellsOf t=n)
  (h:Lib.VarReads P W name (Lib.tabData k zs)):Lib.TabIs P W name k zs:=by
 obtain ⟨g',t',cs,bt,p,X6,Bb,aAR,hd⟩:=h;obtain rfl:=th (hg.symm.trans X6);obtain rfl:=th (hty.symm.trans Bb);unfold Lib.TabIs;rw [aAR,<-Lib.cells_of_tab ht he hce eZ hd]
def table {W:ym} (h:laidMetH Tryz.prog Rows.skyTomographyRow.laid W):Lib.TabIs Tryz.prog W "internal/strconv.uint64pow10" .u64 Lib.pow10Tab:=
 have h':laidMet Tryz.prog Rows.skyTomographyRow.laid W:=h;have hm:("internal/strconv.uint64pow10",(Lib.tabData .u64 Lib.pow10Tab:DataW Unit))∈Rows.skyTomographyRow.laid:= .tail _ (.tail _ (.head _))
 alr (g:=5) (t:=317) (e:=243) (n:=20) (by kernel_rfl) (by kernel_rfl) Tryz.underlying317 Tryz.underlying243 (by kernel_rfl) (by kernel_rfl) (Lib.laidMet.reads h' hm)
def ayr:Tryz.f3.params.toList.all (VE.flat Tryz.prog 7)=true:=by
 rw [Tryz.params3];kernel_rfl
def aq2 (H:Type) (enc:yH×yj->H) (W:ym) (base:Nat) (args:Array yj) (ds gs:List (DataW H)) (before:List MemPlace)
  (aR:∀(j:Nat) t v,Tryz.f3.params[j]? =some t->args[j]? =some v->Value.okWide Tryz.prog W .any base t v)
  (hW:DataW.Whole enc Tryz.prog Tryz.f3.params.toList Rows.skyTomographySpec.vars false W args.toList ds gs before) (hL:laidMetH Tryz.prog Rows.skyTomographyRow.laid W) (iq:W.ShapedOpen Tryz.prog):
  Calls Tryz.prog 3 args W fun e W'=>∃v,e= .returned v/\Rows.skyTomographySpec.post enc Tryz.prog Tryz.f3 false true false false W args v W':=by
 have hW':=hW;obtain ⟨p,q,RN,hV,rfl,jm,jV⟩:=hW;have hA:DataW.TrodAll enc Tryz.prog W 0 (fun _=>true) true Tryz.f3.params.toList args.toList ds p:=RN;rw [Tryz.params3] at hA;obtain ⟨ls,hs,ha,hlen⟩:=VE.abA (n:=7) (Ts:=VE.KW) (by kernel_rfl) hA;obtain ⟨d0,d1,d2,EY⟩:∃d0 d1 d2,ds=[d0,d1,d2]:=by
  match ds,hlen with
  | [d0,d1,d2],_=>exact ⟨d0,d1,d2,rfl⟩
 obtain ⟨rfl,rfl⟩:=trodVars_none hV;obtain ⟨m,hm⟩:=Tryz.s1_3 W iq;have hp:=VE.J2.law hm (table hL) hs;rw [<-ha] at hp;have ah:VE.fc (VE.J1.O W) 341 (VE.Av (VE.J1.O W).P 7 Tryz.f3.params.toList ds) (.bool true):=by
  rw [Tryz.params3];exact hp
 exact VE.anF (O:=VE.J1.O W) (n:=341) (k:=7) (fn:=Tryz.f3) (s:=Rows.skyTomographySpec) (tb:=4) ah rfl Tryz.func3 rfl (by decide) aR hW' rfl ayr (by rw [EY];rfl) (by kernel_rfl) Tryz.underlying4
set_option maxRecDepth 10000 in
noncomputable def NV (os:Os):ym:=
 let N:=(World.settled Tryz.prog os).heap.size
 let w0:=World.holding Tryz.prog os ⟨#[.cells #[.string ⟨#[105,110,118,97,108,105,100,32,115,121,110,116,97,120]⟩] 329,.cells #[.string ⟨#[118,97,108,117,101,32,111,117,116,32,111,102,32,114,97,110,103,101]⟩] 329],#[],[]⟩
 let put (h:Array Obj) (g:Nat) (cs:Array yj):Array Obj:=h.modify g fun
  | .cells _ t frozen=> .cells cs t frozen
  | o=>o
 let h3:=put w0.heap 5 (Lib.pow10Tab.map fun z=>Value.int .u64 z).toArray
 let h4:=put h3 3 #[.iface 327 (.pointer (some ⟨N,0,none⟩))]
 let h5:=put h4 4 #[.iface 327 (.pointer (some ⟨N+1,0,none⟩))]
 let h6:=put h5 6 (Lib.firstTab.map fun z=>Value.int .u8 z).toArray
 let h7:=put h6 7 ((List.range 16).flatMap fun i=>[Value.int .u8 (Lib.accLo i),Value.int .u8 (Lib.accHi i)]).toArray
 let h8:=put h7 8 (([0,1,28,2,29,14,24,3,30,22,20,15,25,17,4,8,31,27,13,23,21,19,16,7,26,12,18,6,11,5,10,9]:List Int).map fun z=>Value.int .u8 z).toArray
 let h9:=put h8 9 (([0,1,56,2,57,49,28,3,61,58,42,50,38,29,17,4,62,47,59,36,45,43,51,22,53,39,33,30,24,18,12,5,63,55,48,27,60,41,37,16,46,35,44,21,52,32,23,11,54,26,40,15,34,20,31,10,25,14,19,9,13,8,7,6]:List Int).map fun z=>Value.int .u8 z).toArray
 {w0 with heap:=h9}
noncomputable abbrev N0:Nat:=(World.settled Tryz.prog default).heap.size
abbrev KX:Array yj:=#[.slice none 0 0,.slice none 0 0,.string ⟨#[]⟩]
set_option maxRecDepth 1000000 in
def aq3 (os:Os) (args:Array yj):laidMet Tryz.prog Rows.skyTomographyRow.laid ((NV os).forCall (fun _ _=>0) ⟨#[],args,[]⟩).memory:=
 (LaidIn.of_run [5,3,4,6,7,8,9,N0,N0+1] 8 (by kernel_rfl) (by kernel_rfl) (by kernel_rfl) (by kernel_rfl)).met
def amc (os:Os) {H:Type} (enc:yH×yj->H):
  (OpenSpec.ofChange Rows.skyTomographySpec).preRow enc Tryz.prog Tryz.f3 Rows.skyTomographyRow.domain false Rows.skyTomographyRow.laid ((NV os).forCall (fun _ _=>0) ⟨#[],KX,[]⟩).memory KX:=by
 have hw:(DataW.whole enc Tryz.prog ((NV os).forCall (fun _ _=>0) ⟨#[],KX,[]⟩).memory Tryz.f3.params.toList Rows.skyTomographySpec.vars false KX.toList 8).map (fun x=>(x.1,x.2.1))=
   some ([.nil,.nil,.lit (.string [])],[]):=by kernel_rfl
 obtain ⟨⟨x1,x2,x3⟩,hx,hx1⟩:=Option.map_eq_some_iff.1 hw;simp only [Prod.mk.injEq] at hx1;obtain ⟨rfl,rfl⟩:=hx1;exact OpenSpec.preRow_of_cond 8 hx (by kernel_rfl) (fun k hk=>by cases hk) (by kernel_rfl) (aq3 os _)
set_option maxRecDepth 100000 in
def lifted (os:Os) (started:os.Started) (H:Type) (enc:yH×yj->H) (F:Stop.Interp):
  ReturnsInHanded {} Tryz.checked os 3 .any ((OpenSpec.ofChange Rows.skyTomographySpec).preRow enc Tryz.prog Tryz.f3 Rows.skyTomographyRow.domain false Rows.skyTomographyRow.laid) (((OpenSpec.ofChange Rows.skyTomographySpec).at F).post enc Tryz.prog Tryz.f3 false true false false):=by
 refine returnsInHanded_of_row (C:=Tryz.checked) (s:=OpenSpec.ofChange Rows.skyTomographySpec) own started (by kernel_rfl) Tryz.func3
  (witness_row_atRef (enc:=enc) (C:=Tryz.checked) false (NV os) KX rfl (by kernel_rfl) (by kernel_rfl) (by kernel_rfl) (amc os enc)) ?_
 intro W base args ds gs before aR hW _ _ _ hL iq _;exact aq2 H enc W base args ds gs before aR hW hL iq
end Go.Proofs.YtpdlhopnhojpjaaGreatDoor.skyTomography
