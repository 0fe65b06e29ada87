import Derived.Test.YtabhmepaflffeaaGreatDoorCards
import Derived.LaidByTextLater
import Derived.SevenTiedAt
import Derived.LaidSub
import Derived.LaidOnce
import Derived.WalkKit
import Derived.ProofKit
import Derived.OpenShut
import Derived.Deep.DeepHandedRow
import Derived.Deep.DeepWitnessRowRef
import Derived.Lib.LaidTab
import Derived.Lib.LaidIn
import Derived.Lib.LaidU8
import Derived.Test.YtabhmepaflffeaaGreatDoorXau
set_option linter.all false
set_option maxRecDepth 100000
set_option maxRecDepth 1000000
open Go renaming TypeId->yB,Value->ym,World->yo
open Option.some renaming inj->yag
namespace Go.Proofs.YtabhmepaflffeaaGreatDoor.sensorFrames
open Go.ChangeShapes Go.WideShapes Go.ChangeAt Go.RowKit
def own:ownKnob Tryz.prog.godebug=none:=by kernel_rfl
def am9{P:Program}{W:yo}{name:String}{k:IntKind}{zs:List Int}{g:Nat}{t e:yB}{n:Nat}(hg:P.globalNamed name=some g)(hty:(P.globals[g]?).map (·.type)=some t)(ht:P.underlying t=some (.array n e))(he:P.underlying e=some (.int k))(hce:P.cellsOf e=1)(jg:P.cellsOf t=n)(h:Lib.VarReads P W name (Lib.tabData k zs)):Lib.TabIs P W name k zs:=by
 obtain⟨g',t',cs,bw,p,Of,Ak,aE8,hd⟩:=h;obtain rfl:=yag (hg.symm.trans Of);obtain rfl:=yag (hty.symm.trans Ak);unfold Lib.TabIs;rw[aE8,<-Lib.cells_of_tab ht he hce jg hd]
def table{W:yo}(h:laidMetH Tryz.prog Rows.sensorFramesRow.laid W):Lib.TabIs Tryz.prog W "internal/strconv.uint64pow10" .u64 Lib.pow10Tab:=
 have h':laidMet Tryz.prog Rows.sensorFramesRow.laid W:=h;have hm:("internal/strconv.uint64pow10",(Lib.tabData .u64 Lib.pow10Tab:DataW Unit))∈Rows.sensorFramesRow.laid:=.tail _ (.tail _ (.head _))
 am9 (g:=9) (t:=328) (e:=285) (n:=20) (by kernel_rfl) (by kernel_rfl) Tryz.underlying328 Tryz.underlying285 (by kernel_rfl) (by kernel_rfl) (Lib.laidMet.reads h' hm)
def aBE:Tryz.f3.params.toList.all (VE.flat Tryz.prog 7)=true:=by
 rw[Tryz.params3];kernel_rfl
def as0(H:Type)(enc:yB×ym->H)(W:yo)(base:Nat)(args:Array ym)(ds gs:List (DataW H))(before:List MemPlace)(aM:∀(j:Nat) t v,Tryz.f3.params[j]? =some t->args[j]? =some v->Value.okWide Tryz.prog W .any base t v)(hW:DataW.Whole enc Tryz.prog Tryz.f3.params.toList Rows.sensorFramesSpec.vars false W args.toList ds gs before)(hL:laidMetH Tryz.prog Rows.sensorFramesRow.laid W)(kU:W.ShapedOpen Tryz.prog):
  Calls Tryz.prog 3 args W fun e W'=>∃v,e=.returned v/\Rows.sensorFramesSpec.post enc Tryz.prog Tryz.f3 false true false false W args v W':=by
 have hW':=hW;obtain⟨p,q,hA0,hV,rfl,fa,nk⟩:=hW;have hA:DataW.TrodAll enc Tryz.prog W 0 (fun _=>true) true Tryz.f3.params.toList args.toList ds p:=hA0;rw[Tryz.params3] at hA;obtain⟨ls,hs,ha,hlen⟩:=VE.aeQ (n:=7) (Ts:=VE.KT) (by kernel_rfl) hA;obtain⟨d0,d1,d2,GB⟩:∃d0 d1 d2,ds=[d0,d1,d2]:=by
  match ds,hlen with
  | [d0,d1,d2],_=>exact⟨d0,d1,d2,rfl⟩
 obtain⟨rfl,rfl⟩:=trodVars_none hV;obtain⟨m,hm⟩:=Tryz.s1_3 W kU;have hp:=VE.J2.law hm (table hL) hs;rw[<-ha] at hp;have ap:VE.eR (VE.J1.O W) 633 (VE.B3 (VE.J1.O W).P 7 Tryz.f3.params.toList ds) (.bool true):=by
  rw[Tryz.params3];exact hp
 exact VE.aps (O:=VE.J1.O W) (n:=633) (k:=7) (fn:=Tryz.f3) (s:=Rows.sensorFramesSpec) (tb:=4) ap rfl Tryz.func3 rfl (by decide) aM hW' rfl aBE (by rw[GB];rfl) (by kernel_rfl) Tryz.underlying4
set_option maxRecDepth 10000 in
noncomputable def Pr(os:Os):yo:=
 let N:=(World.settled Tryz.prog os).heap.size
 let w0:=World.holding Tryz.prog os ⟨#[.cells #[.string ⟨#[105,110,118,97,108,105,100,32,115,121,110,116,97,120]⟩] 389,.cells #[.string ⟨#[118,97,108,117,101,32,111,117,116,32,111,102,32,114,97,110,103,101]⟩] 389],#[],[]⟩
 let put (h:Array Obj) (g:Nat) (cs:Array ym):Array Obj:=h.modify g fun
  | .cells _ t frozen=>.cells cs t frozen
  | o=>o
 let h3:=put w0.heap 9 (Lib.pow10Tab.map fun z=>Value.int .u64 z).toArray
 let h4:=put h3 7 #[.iface 387 (.pointer (some ⟨N,0,none⟩))]
 let h5:=put h4 8 #[.iface 387 (.pointer (some ⟨N+1,0,none⟩))]
 let h6:=put h5 10 (Lib.firstTab.map fun z=>Value.int .u8 z).toArray
 let h7:=put h6 11 ((List.range 16).flatMap fun i=>[Value.int .u8 (Lib.accLo i),Value.int .u8 (Lib.accHi i)]).toArray
 let h8:=put h7 12 (([0,1,28,2,29,14,24,3,30,22,20,15,25,17,4,8,31,27,13,23,21,19,16,7,26,12,18,6,11,5,10,9]:List Int).map fun z=>Value.int .u8 z).toArray
 let h9:=put h8 13 (([0,1,56,2,57,49,28,3,61,58,42,50,38,29,17,4,62,47,59,36,45,43,51,22,53,39,33,30,24,18,12,5,63,55,48,27,60,41,37,16,46,35,44,21,52,32,23,11,54,26,40,15,34,20,31,10,25,14,19,9,13,8,7,6]:List Int).map fun z=>Value.int .u8 z).toArray
 let jF:=put h9 1 #[.float .f64 4460209587652500685,.float .f64 13716528389658582877,.float .f64 4523617212962785441,.float .f64 13774824197404483331,.float .f64 4575957461383575504,.float .f64 13818544856648471880]
 let Ev:=put jF 2 #[.float .f64 13666448263388469915,.float .f64 4477121864728985349,.float .f64 13732177093698800582,.float .f64 4537941361668146421,.float .f64 13787419979223748497,.float .f64 4586165620538955083]
 let h12:=put Ev 3 #[.int .u64 1,.int .u64 5040379952546458195,.int .u64 17892431488136887169,.int .u64 13169980181085364355,.int .u64 18204331823439776451,.int .u64 7946843935494350272,.int .u64 905889640498799673,.int .u64 18175356263134875261,.int .u64 15061281708168349961,.int .u64 15220161563773041794,.int .u64 8296664548579374057,.int .u64 4109744767560208502,.int .u64 4607516669194743839,.int .u64 16023283104648321598,.int .u64 15739233654134936430,.int .u64 11424645774684705882,.int .u64 16883842788696515318,.int .u64 8795094592981902804,.int .u64 15561835991111744016,.int .u64 12395701187267450711]
 {w0 with heap:=h12}
noncomputable abbrev N0:Nat:=(World.settled Tryz.prog default).heap.size
abbrev Mg:Array ym:=#[.agg #[.int .i64 0,.int .i64 0,.int .i64 0],.agg #[.slice none 0 0,.slice none 0 0,.slice none 0 0],.slice none 0 0]
set_option maxRecDepth 1000000 in
def as3(os:Os)(args:Array ym):laidMet Tryz.prog Rows.sensorFramesRow.laid ((Pr os).forCall (fun _ _=>0) ⟨#[],args,[]⟩).memory:=
 (LaidIn.of_run [9,7,8,10,11,12,13,1,2,3,N0,N0+1] 8 (by kernel_rfl) (by kernel_rfl) (by kernel_rfl) (by kernel_rfl)).met
def an3(os:Os){H:Type}(enc:yB×ym->H):
  (OpenSpec.ofChange Rows.sensorFramesSpec).preRow enc Tryz.prog Tryz.f3 Rows.sensorFramesRow.domain false Rows.sensorFramesRow.laid ((Pr os).forCall (fun _ _=>0) ⟨#[],Mg,[]⟩).memory Mg:=by
 have hw:(DataW.whole enc Tryz.prog ((Pr os).forCall (fun _ _=>0) ⟨#[],Mg,[]⟩).memory Tryz.f3.params.toList Rows.sensorFramesSpec.vars false Mg.toList 8).map (fun x=>(x.1,x.2.1))=
   some ([.agg [.lit (.int .i64 0),.lit (.int .i64 0),.lit (.int .i64 0)],.agg [.nil,.nil,.nil],.nil],[]):=by kernel_rfl
 obtain⟨⟨x1,x2,x3⟩,hx,mN⟩:=Option.map_eq_some_iff.1 hw;simp only[Prod.mk.injEq] at mN;obtain⟨rfl,rfl⟩:=mN;exact OpenSpec.preRow_of_cond 8 hx (by kernel_rfl) (fun k hk=>by cases hk) (by kernel_rfl) (as3 os _)
set_option maxRecDepth 100000 in
def lifted(os:Os)(started:os.Started)(H:Type)(enc:yB×ym->H)(F:Stop.Interp):
  ReturnsInHanded {} Tryz.checked os 3 .any ((OpenSpec.ofChange Rows.sensorFramesSpec).preRow enc Tryz.prog Tryz.f3 Rows.sensorFramesRow.domain false Rows.sensorFramesRow.laid) (((OpenSpec.ofChange Rows.sensorFramesSpec).at F).post enc Tryz.prog Tryz.f3 false true false false):=by
 refine returnsInHanded_of_row (C:=Tryz.checked) (s:=OpenSpec.ofChange Rows.sensorFramesSpec) own started (by kernel_rfl) Tryz.func3
  (witness_row_atRef (enc:=enc) (C:=Tryz.checked) false (Pr os) Mg rfl (by kernel_rfl) (by kernel_rfl) (by kernel_rfl) (an3 os enc)) ?_
 intro W base args ds gs before aM hW _ _ _ hL kU _;exact as0 H enc W base args ds gs before aM hW hL kU
end Go.Proofs.YtabhmepaflffeaaGreatDoor.sensorFrames
