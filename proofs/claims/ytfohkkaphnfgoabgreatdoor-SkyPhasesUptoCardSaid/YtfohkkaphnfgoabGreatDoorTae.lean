import Derived.Lib.Index
import Derived.Lib.ItoaNum
import Derived.Lib.Atoi
import Derived.Lib.BitFns
import Derived.Lib.Repeat
import Derived.Lib.SlTrimSet
import Derived.Shelf.Strings.Cut
import Derived.Shelf.Strings.Prefix
import Derived.Shelf.Small.Bits
import Derived.RowKit
import Derived.Test.YtfohkkaphnfgoabGreatDoorTad
import Derived.Test.YtfohkkaphnfgoabGreatDoorTaa
set_option linter.all false
set_option maxRecDepth 100000
open Array renaming getElem?_eq_some_iff→xp,replicate→uj
open Bool renaming and_eq_true→yf,false_eq_true→yC
open Go renaming Calls→xK,Code→wL,Func→td,FuncId→tp,LeavesInM→ybr,Loop→uA,Program→y9,ResultVar→ybo,Value→ye,World→yg
open Int renaming natCast_nonneg→uR,ofNat→yai
open List renaming length_map→yY,mapM_cons→vK,map_append→xy,map_cons→yS,map_reverse→uV
open Nat renaming beq→yt,ble→yB,ble_eq_true_of_le→yz,blt→yI,eq_of_beq_eq_true→yk,le_of_ble_eq_true→yr,le_refl→yv,le_trans→xj,lt_of_lt_of_le→yN
open Option.some renaming injEq→yc
open Prod.mk renaming injEq→ym
open UInt8 renaming ofNat→yaK,toNat→y7,toNat_ofNat'→tF
namespace VE
section
open Go
section
variable {O:bq} {m:Mp} {S:Nat->Prop} {w:yg} {hp:Hp} {ct:Nat}
def WS (hh:aV O m S w hp ct) {g:Nat} {w':yg} (hw:One w w' g) (hg:¬S g) (ho:¬dR m hp g) (bi:O.w0.heap.size<=g):aV O m S w' hp ct:=by
 have aR:fE S w w':=fun b hb=>hw.other b (fun e=>hg (e▸hb))
 refine ⟨fun id o p h1 h2=>?_,hh.lt,hh.inj,fun b hb=>by rw [hw.size];exact hh.slt b hb,fun id p h=>by rw [hw.size];exact hh.blt id p h,hh.low,fun b hb=>?_,by rw [hw.size];exact hh.fF,hh.a6⟩
 ·exact pI (fun _ _ h=>h) (fun _ h=>h) aR (fun q hq=>hw.other _ (fun e=>ho ⟨id,o,q,h1,hq,e⟩)) (fun _ _ h=>h) (hh.obj id o p h1 h2)
 ·rw [hw.other b (by omega)];exact hh.kH b hb
def WT {P:y9} {b:Nat} {o:Go.Obj} (h:w.heap[b]? =some o) (hc:∀c t f,o≠.cells c t f):(getObj b).run P w= .ok o w:=by
 simp only [getObj,Sem.run,h]
def KF {P:y9} {b:Nat} {o x:Go.Obj} (h:w.heap[b]? =some o) (hc:∀c t f,o≠.cells c t f):(setObj b x).run P w= .ok () {w with heap:=w.heap.setIfInBounds b x}:=by
 simp only [setObj,Sem.run,h]
def GB {P:y9} {b:Nat} {r:uA} (h:w.heap[b]? =some (.loop r)):(Instr.getLoop b).run P w= .ok r w:=by
 simp only [Instr.getLoop,Sem.run_bind,WT (P:=P) h (fun _ _ _=>by simp),Result.andThen_ok,Sem.run_pure]
def G9 (hh:aV O m S w hp ct) {l:Nat} {tm:Env} {ps:List Nat} {cK body:VC} {st:Nat} {pe:sr} {p:Pl} (hg:aw hp l=some (.lp tm ps cK body st pe)) (hm:m l=some p):
  ∃(r:uA) (h:Nat),w.heap[p.b]? =some (.loop r)/\¬S p.b/\r.state=Am st/\st<=2/\r.pending=rS pe/\cf O m S w tm r.tmps/\r.params.toList=ps/\AP O.P (O.hint h) cK r.assign/\AP O.P (O.hint h) body r.body/\
   (O.hint h).n<=r.tmps.size/\rY (O.hint h).n ps=true:=by
 obtain ⟨q,r,h,g1,g2,g3⟩:=hh.obj l _ p hg hm
 grind
def XD (hh:aV O m S w hp ct) {l:Nat} {tm:Env} {ps:List Nat} {cK body:VC} {st:Nat} {pe:sr} {p:Pl} (hg:aw hp l=some (.lp tm ps cK body st pe)) (hm:m l=some p) {r:uA} (hr:w.heap[p.b]? =some (.loop r))
  {st':Nat} {pe':sr} (h2:st'<=2):
  aV O m S {w with heap:=w.heap.setIfInBounds p.b (.loop {r with state:=Am st',pending:=rS pe'})} (bh hp l (.lp tm ps cK body st' pe')) ct/\
  cm m S w hp m S {w with heap:=w.heap.setIfInBounds p.b (.loop {r with state:=Am st',pending:=rS pe'})} (bh hp l (.lp tm ps cK body st' pe')) ct:=by
 obtain ⟨r',h,g1,g2,g3,g4,g5,g6,g7,g8,g9,g10,g11⟩:=G9 hh hg hm;rw [hr] at g1;injection g1 with g1
 injection g1 with g1
 subst g1;have fw:=Dr w p.b (.loop {r with state:=Am st',pending:=rS pe'})
 refine GY hh hg hm g2 fw ⟨p,{r with state:=Am st',pending:=rS pe'},h,hm,KB hr,g2,rfl,h2,rfl,?_,g7,g8,g9,g10,g11⟩ (fun _ _=>⟨_,KB hr⟩);exact zC (fun _ _ h=>h) (fun _ h=>h) (fun b hb=>fw.other b (fun e=>g2 (e▸hb))) g6
def XE {n:Nat}:∀{ps:List Nat} {vs:List AV} {us:List ye} {tm cu:Env} {tmps:Array ye},pP tm ps vs=some cu->ap O.ah m S w vs us->cf O m S w tm tmps->n<=tmps.size->rY n ps=true->
  ps.length=us.length/\cf O m S w cu ((ps.zip us).foldl (fun t (x:Nat×ye)=>t.setIfInBounds x.1 x.2) tmps)/\((ps.zip us).foldl (fun t (x:Nat×ye)=>t.setIfInBounds x.1 x.2) tmps).size=tmps.size
 | [],[],us,tm,cu,tmps,h,hr,ht,hn,ha=>by
  simp only [pP,yc] at h;simp only [ap] at hr
  simp_all
 | [],_::_,us,tm,cu,tmps,h,hr,ht,hn,ha=>by simp [pP] at h
 | _::_,[],us,tm,cu,tmps,h,hr,ht,hn,ha=>by simp [pP] at h
 | p::ps,v::vs,us,tm,cu,tmps,h,hr,ht,hn,ha=>by
  simp only [pP] at h;obtain ⟨u,t,rfl,h1,h2⟩:=hr;simp only [rY,yf] at ha;have hp:=rN.1 ha.1;have ht1:cf O m S w ((p,v)::tm) (tmps.setIfInBounds p u):=PV (a:=⟨tmps,[]⟩) (d:=some p) ht (fun i hi=>by injection hi with hi;show i<tmps.size;omega) h1
  obtain ⟨g1,g2,g3⟩:=XE (n:=n) h h2 ht1 (by simpa using hn) ha.2
  simp_all
def aj4 (ps:Array Tmp) (args:Array ye) (tmps:Array ye):(ps.zip args).foldl (fun tmps (x:Tmp×ye)=>tmps.setIfInBounds x.1 x.2) tmps=(ps.toList.zip args.toList).foldl (fun t (x:Nat×ye)=>t.setIfInBounds x.1 x.2) tmps:=by
 rw [<-Array.foldl_toList,Array.toList_zip]
def agj {P:y9} {b:Nat} {r:uA} (h:w.heap[b]? =some (.loop r)) (jump:Option wL):
  (Instr.endRound b jump).run P w= .ok (.bool jump.isNone) {w with heap:=w.heap.setIfInBounds b (.loop {r with state:=if jump.isNone then .ready else .done,pending:=jump})}:=by
 simp only [Instr.endRound,Sem.run_bind,GB h,Result.andThen_ok,KF (P:=P) h (fun _ _ _=>by simp),Sem.run_pure]
def af6 {P:y9} {b:Nat} {r:uA} (h:w.heap[b]? =some (.loop r)) (hs:r.state= .ready):
  (Instr.beginRound b).run P w= .ok () {w with heap:=w.heap.setIfInBounds b (.loop {r with state:= .busy})}:=by
 simp only [Instr.beginRound,Sem.run_bind,GB h,Result.andThen_ok,KF (P:=P) h (fun _ _ _=>by simp),hs,Sem.run_pure]
def aj5 {self:cF} (hS:∀v s ex s',self v s=some (ex,s')->∀c h l k,(comp O.P (O.hint h) c l k).1=v->Ab O h c s ex s') {l:Nat} {xs:List AV} {v:AV} {an:Hp} {a7:Nat}
  (hv:mD self hp ct l xs=some (v,an,a7)):ZX O hp ct l xs v an a7:=by
 intro m S w args p hh hm gE;unfold mD at hv
 split at hv
 case h_2=>cases hv
 rename_i tm ps cK body pe hg;obtain ⟨r,h,g1,g2,g3,g4,g5,g6,g7,⟨ca,ka,g8⟩,⟨cb,kb,g9⟩,g10,g11⟩:=G9 hh hg hm
 cases hb:pP tm ps xs with
 | none=>simp [hb] at hv
 | some cu=>
  simp only [hb] at hv;obtain ⟨b1,b2,b3⟩:=XE hb gE g6 g10 g11;rw [<-g7] at b1 b2 b3;have eF:args.size=r.params.size:=by
   grind
  let tmps:Array ye:=(r.params.zip args).foldl (fun tmps (x:Tmp×ye)=>tmps.setIfInBounds x.1 x.2) r.tmps
  have adh:tmps=(r.params.toList.zip args.toList).foldl (fun t (x:Nat×ye)=>t.setIfInBounds x.1 x.2) r.tmps:=aj4 _ _ _;refine ⟨r.fn,tmps,r.assign,r.body,?_,?_⟩
  ·simp only [Instr.yield,Sem.run_bind,GB g1,Result.andThen_ok,eF,yaJ,ud,y8,Sem.run_pure];rfl
  refine roundIn_of_wpIn (F:=Fence.wide) trivial ?_
  cases h1:self cK ⟨cu,hp,ct,ct⟩ with
  | none=>simp [h1] at hv
  | some q=>
   obtain ⟨ex1,s1⟩:=q
   cases ex1 with
   | ret=>simp [h1] at hv
   | exit id=>simp [h1] at hv
   | normal=>
    simp only [h1] at hv;have dU:=hS _ _ _ _ h1 r.assign h ca ka g8;have cU:∀w',cm m S w hp m S w' hp ct->rT (some p.b) w':=fun w' hf=>KR hf (fun l hl=>⟨r,by injection hl with hl;subst hl;exact g1⟩)
    refine wpIn_mono (dU (some p.b) w.heap.size m S w ⟨tmps,[]⟩ (cU w cm.refl) (by rw [adh];exact b2) hh (yv _) (by show _<=tmps.size;rw [adh,b3];exact g10) hh.fF (yv _) ⟨[],rfl,by simp,by simp⟩) ?_
    rintro e a1 w1 ⟨rfl,m1,S1,k1,k2,k3,k4,k5,k6,k7⟩;simp only [oY,Exit.then];have AZ:m1 l=some p:=k5.old l p (hh.lt l p hm) hm
    split at hv
    case h_2=>cases hv
    rename_i jm CD CE B3 sR gY;obtain ⟨r1,iG,f1,f2,f3,f4,f5,f6,f7,f8,f9,f10,f11⟩:=G9 k2 gY AZ;have Ug:=af6 (P:=O.P) f1 f3;obtain ⟨q1,q2⟩:=XD k2 gY AZ f1 (st':=1) (pe':=sR) (by omega)
    have cw:({r1 with state:=Am 1,pending:=rS sR}:uA)={r1 with state:= .busy}:=by rw [<-f5];rfl
    rw [cw] at q1 q2;refine ⟨_,Ug,?_⟩
    cases h2:self body ⟨s1.tm,bh s1.hp l (.lp jm CD CE B3 1 sR),s1.ct,s1.ct⟩ with
    | none=>simp [h2] at hv
    | some q=>
     obtain ⟨ex,s2⟩:=q;simp only [h2] at hv;have qU:=hS _ _ _ _ h2 r.body h cb kb g9
     have asz:rT (some p.b) {w1 with heap:=w1.heap.setIfInBounds p.b (.loop {r1 with state:= .busy})}:=fun l hl=>by
      grind
     have Uh:cf O m1 S1 {w1 with heap:=w1.heap.setIfInBounds p.b (.loop {r1 with state:= .busy})} s1.tm a1.tmps:=
      zC (fun _ _ h=>h) (fun _ h=>h) (fun b hb=>q2.still b hb) k1
     have asA:(O.hint h).n<=a1.tmps.size:=by
      grind
     refine wpIn_mono (qU (some p.b) w.heap.size m1 S1 _ a1 asz Uh q1 (yv _) asA hh.fF (xj k5.size q2.size) (zD k2 q2 k7)) ?_;rintro e a2 w2 ⟨rfl,m2,S2,j1,j2,j3,j4,j5,j6,j7⟩;have hm2:m2 l=some p:=j5.old l p (k2.lt l p AZ) AZ
     split at hv
     case h_2=>cases hv
     rename_i qJ Jn Jo HU pe2 E4;obtain ⟨r2,JC,d1,d2,d3,d4,d5,d6,d7,d8,d9,d10,d11⟩:=G9 j2 E4 hm2;have asB:cm m S w hp m2 S2 w2 s2.hp ct:=(k5.trans (q2.qg k4)).trans (j5.qg k4);have adi:ct<=s2.ct:=xj k4 j4;have fin:∀(jump:Option wL) (st':Nat) (pe':sr),rS pe'=jump->Am st'=(if jump.isNone then .ready else .done)->st'<=2->
       ∃v' w',(Instr.endRound p.b jump).run O.P w2= .ok v' w'/\rF O m S w hp ct (.bool jump.isNone) (bh s2.hp l (.lp qJ Jn Jo HU st' pe')) s2.ct (.returned v') w':=by
      intro jump st' pe' e1 e2 e3;obtain ⟨z1,z2⟩:=XD j2 E4 hm2 d1 (st':=st') (pe':=pe') e3;rw [e1,e2] at z1 z2;exact ⟨_,_,agj d1 jump,_,m2,S2,rfl,z1,adi,by simp [ai],asB.trans (z2.qg adi)⟩
     cases ex with
     | normal=>
      simp only [yc,ym] at hv;obtain ⟨rfl,rfl,rfl⟩:=hv;simp only [oY,roundPost];exact fin none 0 .none rfl rfl (by omega)
     | ret=>
      simp only [QG,yc,ym] at hv;obtain ⟨rfl,rfl,rfl⟩:=hv;simp only [oY,roundPost];exact fin (some .ret) 2 .ret rfl rfl (by omega)
     | exit id=>
      simp only [QG,yc,ym] at hv;obtain ⟨rfl,rfl,rfl⟩:=hv;simp only [oY,roundPost];exact fin (some (.exit id)) 2 (.exit id) rfl rfl (by omega)
end
end
section
open Go
section
variable {O:bq} {self:cF}
def K8 {P:y9} {f:tp} {fn:td} {args:Array ye} {w:yg} (hf:P.funcs[f]? =some fn) (hb:fn.body.isSome=true) (hn:fn.name≠ "runtime.NumGoroutine"):(callFunc f args).run P w= .ok (.enter f args) w:=by
 have h1:fn.body≠none:=fun e=>by rw [e] at hb;cases hb
 simp [callFunc,program,Sem.run,hf,h1,hn]
def O5 {P:y9} {H:Hint} {fn:td} {F:aB} (h:DL P H fn=some F):∃c,fn.body=some c/\F.body=(comp P H c 0 0).1/\nH P fn.results.toList=some F.dY/\H.n<=fn.ntmps:=by
 unfold DL at h
 split at h
 ·rename_i c rs h1 h2
  cases hb:yB H.n fn.ntmps with
  | false=>rw [hb] at h;cases h
  | true=>
   rw [hb] at h;simp only [yy,yc] at h;subst h
   simp_all
 ·cases h
def aj6 {m:Mp} {S:Nat->Prop} {w:yg} {hp:Hp} {ct:Nat} {tm:Env} {a:Act} {ro:Option Nat} (fn:tp) (ps:Array Tmp) (assign body:wL) {cK b':VC} {h:Nat} (hh:aV O m S w hp ct) (ht:cf O m S w tm a.tmps) (cU:rT ro w)
  (Ui:AP O.P (O.hint h) cK assign) (Uj:AP O.P (O.hint h) b' body) (hn:(O.hint h).n<=a.tmps.size) (eP:rY (O.hint h).n ps.toList=true) {lo:Nat} (eQ:lo<=w.heap.size) (cM:Marks lo S w a.defers):
  ∃l mark w1,(Instr.enterLoop fn a.tmps ps assign body ro).run O.P w= .ok (l,mark) w1/\aV O (fh m ct ⟨l,0,0,0⟩) S w1 ((ct,.lp tm ps.toList cK b' 0 .none)::hp) (ct+1)/\
   cm m S w hp (fh m ct ⟨l,0,0,0⟩) S w1 ((ct,.lp tm ps.toList cK b' 0 .none)::hp) ct/\m ct=none/\Marks lo S w1 (mark++a.defers)/\w.heap.size<=l:=by
 have bJ:m ct=none:=by
  cases hq:m ct with
  | none=>rfl
  | some p=>have:=hh.lt ct p hq;omega
 have lay:∀(w':yg) (d:Nat),Calm w w'->Marks lo S w' a.defers->
   aV O (fh m ct ⟨w'.heap.size,0,0,0⟩) S (w'.alloc (.loop {state:= .ready,pending:=none,fn:=fn,tmps:=a.tmps,params:=ps,assign:=assign,body:=body,defers:=d})) ((ct,.lp tm ps.toList cK b' 0 .none)::hp) (ct+1)/\
   cm m S w hp (fh m ct ⟨w'.heap.size,0,0,0⟩) S (w'.alloc (.loop {state:= .ready,pending:=none,fn:=fn,tmps:=a.tmps,params:=ps,assign:=assign,body:=body,defers:=d})) ((ct,.lp tm ps.toList cK b' 0 .none)::hp) ct:=by
  intro w' d hw adj;have iG:aV O m S w' hp ct:=Dw hh hw (fun _ h=>h) (fun _ h=> .inl h) (fun b hb=>yN (hh.slt b hb) hw.size);have AY:cm m S w hp m S w' hp ct:=Bs hh hw (fun _ h=>h) (fun _ h=> .inl h);have hg:ia hp ct ((ct,.lp tm ps.toList cK b' 0 .none)::hp) (ct+1):=by
   refine ⟨fun id o ho=>⟨o,?_,iZ.refl o⟩,by omega,fun id o ho=>?_,fun id o ho hi=>?_⟩
   ·rw [gP,yF (by have:=hh.a6 id o ho;omega)];exact ho
   ·rw [gP] at ho;by_cases hc:ct=id
    ·omega
    ·simp only [hc,y8] at ho;have:=hh.a6 id o ho;omega
   ·rw [gP,yF (by omega)] at ho;exact ⟨o,ho⟩
  have gZ:∀i q,aw ((ct,Obj.lp tm ps.toList cK b' 0 .none)::hp) i=some q->i≠ct->aw hp i=some q:=fun i q h hi=>by
   rw [gP,yF (fun e=>hi e.symm)] at h;exact h
  have JC:aV O m S w' ((ct,.lp tm ps.toList cK b' 0 .none)::hp) (ct+1):=by
   have fC:∀id p,m id=some p->id≠ct:=fun id p hm e=>by have:=hh.lt id p hm;omega
   exact ⟨fun id o p ho hm=>iG.obj id o p (gZ id o ho (fC id p hm)) hm,fun id p hm=>by have:=hh.lt id p hm;omega,
    fun i j oi oj pi pj hi hj bJ fL e=>iG.inj i j oi oj pi pj (gZ i oi hi (fC i pi bJ)) (gZ j oj hj (fC j pj fL)) bJ fL e,iG.slt,iG.blt,iG.low,iG.kH,iG.fF,hg.lt⟩
  have nd:fg O (fh m ct ⟨w'.heap.size,0,0,0⟩) S (w'.alloc (.loop {state:= .ready,pending:=none,fn:=fn,tmps:=a.tmps,params:=ps,assign:=assign,body:=body,defers:=d})) ct (.lp tm ps.toList cK b' 0 .none):=by
   refine ⟨⟨w'.heap.size,0,0,0⟩,_,h,dW,heap_alloc_new w' _,?_,rfl,by omega,rfl,?_,rfl,Ui,Uj,hn,eP⟩
   ·intro hS
    have:=iG.slt _ hS
    simp at this
   ·exact zC (jJ bJ) (fun _ h=>h) (fun b hb=>(GD iG _ b hb).trans (hw.same b (hh.slt b hb))) ht
  obtain ⟨S',k1,k2,k3⟩:=Ya (i:=ct) (p:=⟨w'.heap.size,0,0,0⟩) JC bJ (by omega) rfl (fun o ho=>by
   rw [gP] at ho;simp only [xh,yc] at ho;subst ho
   exact .inl ⟨nd,by simp [iO]⟩)
  have k1':aV O (fh m ct ⟨w'.heap.size,0,0,0⟩) S (w'.alloc (.loop {state:= .ready,pending:=none,fn:=fn,tmps:=a.tmps,params:=ps,assign:=assign,body:=body,defers:=d})) ((ct,.lp tm ps.toList cK b' 0 .none)::hp) (ct+1):=by
   have Jt:∀id q,m id=some q->q.b≠w'.heap.size:=fun id q hq=>by have:=iG.blt id q hq;omega
   refine ⟨?_,k1.lt,k1.inj,fun b hb=>k1.slt b (k2 b hb),k1.blt,k1.low,k1.kH,k1.fF,k1.a6⟩;intro id o q ho hm;by_cases hc:id=ct
   ·subst hc;rw [gP] at ho
    grind
   ·rw [dV hc] at hm;exact pI (jJ bJ) (fun _ h=>h) (GD iG _) (fun q' bV=>alloc_old (iG.blt id q' bV)) (fun _ _ h=>h) (iG.obj id o q (gZ id o ho hc) hm)
  refine ⟨k1',AY.trans ⟨rfl,rfl,rfl,by simp,fun b hb _=>alloc_old hb,fun _ h=>h,fun b hb=>GD iG _ b hb,fun b hb=> .inl hb,?_,fun i q _ hq=>jJ bJ i q hq,fun b r hb=>⟨r,(alloc_old (xp.1 hb).1).trans hb⟩⟩⟩;rintro b ⟨i,o,q,g1,g2,g3⟩;by_cases hc:i=ct
  ·subst hc;rw [dW] at g2
   grind
  ·rw [dV hc] at g2;exact .inl ⟨i,o,q,gZ i o g1 hc,g2,g3⟩
 cases ro with
 | none=>
  have HX:Calm w (w.alloc (.deferred (some []))):=⟨rfl,rfl,rfl,by simp,fun b hb=>alloc_old hb⟩;obtain ⟨rs,r1,r2,r3⟩:=cM;have asC:Marks lo S (w.alloc (.deferred (some []))) a.defers:=⟨rs,r1,r2,fun r hr=>⟨(alloc_old (xp.1 (r3 r hr).1).1).trans (r3 r hr).1,(r3 r hr).2⟩⟩;obtain ⟨k1,k2⟩:=lay (w.alloc (.deferred (some []))) w.heap.size HX asC
  refine ⟨(w.alloc (.deferred (some []))).heap.size,[{target:= .collected w.heap.size,args:=#[]}],_,?_,k1,k2,bJ,?_,by simp⟩
  ·simp [Instr.enterLoop,newObj,Sem.run]
  ·have hold:∀(b:Nat) (x:Go.Obj),(w.alloc (.deferred (some []))).heap[b]? =some x->((w.alloc (.deferred (some []))).alloc (.loop {state:= .ready,pending:=none,fn:=fn,tmps:=a.tmps,params:=ps,assign:=assign,body:=body,defers:=w.heap.size})).heap[b]? =some x:=fun b x hb=>
    (alloc_old (xp.1 hb).1).trans hb
   refine ⟨w.heap.size::rs,by rw [r1];rfl,?_,?_⟩
   ·grind
   ·intro r hr;rcases List.mem_cons.1 hr with rfl | hr
    ·exact ⟨hold _ _ (heap_alloc_new w _),fun hs=>by have:=hh.slt _ hs;omega,eQ⟩
    ·exact ⟨hold _ _ ((alloc_old (xp.1 (r3 r hr).1).1).trans (r3 r hr).1),(r3 r hr).2⟩
 | some l0=>
  obtain ⟨r0,kR⟩:=cU l0 rfl;obtain ⟨k1,k2⟩:=lay w r0.defers Calm.refl cM;refine ⟨w.heap.size,[],_,?_,k1,k2,bJ,?_,yv _⟩
  ·simp [Instr.enterLoop,GB kR,newObj,Sem.run]
  ·exact zD hh k2 cM
def aqS (hO:ej O) (hC:mE O self) {h:Nat} {f:Operand} {ps:Array Tmp} {assign body:wL} {cK b':VC} (Ui:AP O.P (O.hint h) cK assign) (Uj:AP O.P (O.hint h) b' body) (eP:rY (O.hint h).n ps.toList=true)
  {s:St} {ex:Ex} {s':St} (hv:bD O.prog O.aT self (.rf (aS (O.hint h) f) ps.toList cK b') s=some (ex,s')):Ab O h (.rangeFunc f ps assign body) s ex s':=by
 intro ro lo m S w a cU ht hh hb hn bi eQ cM;simp only [bD] at hv
 split at hv
 case h_2=>cases hv
 rename_i n first cap hx
 split at hv
 case h_1=>cases hv
 rename_i hL
 cases he:iA O.prog O.aT self ((s.ct,.lp s.tm ps.toList cK b' 0 .none)::s.hp) (s.ct+1) n (first++(.fn (.y s.ct) [] []::cap)) with
 | none=>simp [he] at hv
 | some q=>
  obtain ⟨v,bA,qV⟩:=q;simp only [he] at hv
  split at hv
  case h_2=>cases hv
  rename_i qJ Jn Jo HU st pe E4
  cases aR:yt st 1 with
  | true=>rw [aR] at hv;cases hv
  | false=>
   rw [aR] at hv;simp only [yM] at hv;refine wpIn_rangeFunc (fun fn _=>?_);obtain ⟨l,mark,w1,e1,e2,e3,e4,e5,e6⟩:=aj6 (ro:=ro) fn ps assign body hh ht cU Ui Uj hn eP eQ cM;have rf:=cD (hO.hint h) ht f;rw [hx] at rf;simp only [ai] at rf;obtain ⟨fi,ca,hf,r2,r3⟩:=rf;have hle:=jJ e4 (p:=⟨l,0,0,0⟩);have El:fE S w w1:=fun b hb=>e3.still b hb
   have gE:ap O.ah (fh m s.ct ⟨l,0,0,0⟩) S w1 (first++(.fn (.y s.ct) [] []::cap)) (fi++#[Value.func (.yield l) #[] #[]]++ca).toList:=by
    have:=kW (gO hle (fun _ h=>h) El _ _ r2) (kW (a:=[.fn (.y s.ct) [] []]) (x:=[Value.func (.yield l) #[] #[]]) (by
     simp only [ap]
     exact ⟨_,[],rfl,by simp only [ai];exact ⟨_,dW,rfl⟩,rfl⟩) (gO hle (fun _ h=>h) El _ _ r3))
    grind
   have Ro:=hC.heap _ _ _ _ _ _ _ he _ S w1 _ e2 gE;have hP:∃F,O.prog n=some F:=by
    unfold iA at he;rw [hL] at he
    cases hq:O.prog n with
    | none=>simp [hq] at he
    | some F=>exact ⟨F,rfl⟩
   obtain ⟨F,hF⟩:=hP;obtain ⟨fn',q1,q2,q3⟩:=hO.prog n F hF;obtain ⟨cb,q4,_⟩:=O5 q2;have fy:(callFunc (O.ah n) (fi++#[Value.func (.yield l) #[] #[]]++ca)).run O.P w1= .ok (.enter (O.ah n) (fi++#[Value.func (.yield l) #[] #[]]++ca)) w1:=K8 q1 (by rw [q4];rfl) q3
   refine ⟨l,mark,w1,{target:= .fn (.func (O.ah n)) ca,args:=fi++#[Value.func (.yield l) #[] #[]]},w1,O.ah n,fi++#[Value.func (.yield l) #[] #[]]++ca,w1,e1,?_,fun _ _=>trivial,?_,fun hd=>by simp [WF,Fence.wide] at hd,?_⟩
   ·show Sem.run O.P (Deferred.ofValue (a.eval f) _) w1=_
    rw [hf];simp [Deferred.ofValue,Act.eval]
   ·simp only [invoke];exact fy
   ·rcases Ro with ⟨_,Ro⟩ | ⟨u,w',h1,_⟩
    case inr=>rw [fy] at h1;cases h1
    have aor:CallsIn (WF ro) 0 O.P (O.ah n) (fi++#[Value.func (.yield l) #[] #[]]++ca) w1 (rF O (fh m s.ct ⟨l,0,0,0⟩) S w1 ((s.ct,.lp s.tm ps.toList cK b' 0 .none)::s.hp) (s.ct+1) v bA qV):=Ro;refine CallsIn.mono aor ?_;rintro e w3 ⟨u,m',S',rfl,k1,k2,k3,k4⟩;have fK:m' s.ct=some ⟨l,0,0,0⟩:=k4.old s.ct _ (Nat.lt_succ_self _) dW;obtain ⟨r,JC,d1,d2,d3,d4,d5,d6,_⟩:=G9 k1 E4 fK;have ow:(r.state==LoopState.busy)=false:=by
     rw [d3];rcases st with _ | _ | st
     ·rfl
     ·simp_all
     ·have:st=0:=by omega
      subst this;rfl
    have fw:=Dr w3 l (.loop {r with state:= .exhausted});have hdl:=Yi k1 s.ct;have nf:¬dR m' (ep bA s.ct) l:=Wi k1 E4 fK
    have z1:aV O m' S' {w3 with heap:=w3.heap.setIfInBounds l (.loop {r with state:= .exhausted})} (VE.ep bA s.ct) qV:=WS hdl fw d2 nf (by have:=hh.fF;omega)
    have z2:cm m' S' w3 bA m' S' {w3 with heap:=w3.heap.setIfInBounds l (.loop {r with state:= .exhausted})} (VE.ep bA s.ct) s.base:=by
     refine ⟨rfl,rfl,rfl,by rw [fw.size];exact yv _,fun b _ hb=>fw.other b (fun e=>hb (e▸Hj E4 fK)),fun _ h=>h,fun b hb=>fw.other b (fun e=>d2 (e▸hb)),fun b hb=> .inl hb,fun b hb=> .inl (Ze hb),fun _ _ _ h=>h,fun b x hb=>?_⟩
     grind
    have R2:cm m S w s.hp m' S' {w3 with heap:=w3.heap.setIfInBounds l (.loop {r with state:= .exhausted})} (VE.ep bA s.ct) s.base:=
     ((e3.qg hb).trans (k4.qg (by omega))).trans z2
    have Mz:(Instr.endLoop l).run O.P w3= .ok (rS pe) {w3 with heap:=w3.heap.setIfInBounds l (.loop {r with state:= .exhausted})}:=by
     simp only [Instr.endLoop,Sem.run_bind,GB d1,Result.andThen_ok,ow,yC,y8,Sem.run_pure,KF (P:=O.P) d1 (fun _ _ _=>by simp),d5]
    have adj:Marks lo S' {w3 with heap:=w3.heap.setIfInBounds l (.loop {r with state:= .exhausted})} (mark++a.defers):=zD k1 z2 (zD e2 k4 e5)
    have zc:cf O m' S' {w3 with heap:=w3.heap.setIfInBounds l (.loop {r with state:= .exhausted})} s.tm a.tmps:=by
     refine zC (fun id p hp=>?_) R2.sub (fun b hb=>R2.still b hb) ht;have h1:=hh.lt id p hp;exact k4.old id p (by omega) (hle id p hp)
    have post:∀Uk,s'={s with hp:=VE.ep bA s.ct,ct:=qV}->ex=Uk->eE O m S w s ex s' a.tmps.size lo (oY Uk) {a with defers:=mark++a.defers} {w3 with heap:=w3.heap.setIfInBounds l (.loop {r with state:= .exhausted})}:=by
     rintro Uk rfl rfl;exact ⟨rfl,m',S',zc,z1,rfl,by show s.base<=qV;omega,R2,rfl,adj⟩
    refine ⟨_,_,Mz,?_⟩
    cases pe with
    | none=>
     simp only [yc,ym] at hv;exact post .normal hv.2.symm hv.1.symm
    | ret=>
     simp only [yc,ym] at hv;exact wpIn_ret (post .ret hv.2.symm hv.1.symm)
    | exit id=>
     simp only [yc,ym] at hv;exact wpIn_exit (post (.exit id) hv.2.symm hv.1.symm)
end
end
section
def Le (f g:cF):Prop:=∀c s r,f c s=some r->g c s=some r
section
variable {P:aI} {L:Lib} {f g:cF}
def O0 (h:Le f g) (n:Nat) (ak:List AV) (r:AV) (hr:bN P L f n ak=some r):bN P L g n ak=some r:=by
 unfold bN at hr ⊢
 cases hL:L.pure n with
 | some sp=>simpa only [hL] using hr
 | none=>
  simp only [hL] at hr ⊢
  cases hP:P n with
  | none=>simp [hP] at hr
  | some F=>
   simp only [hP] at hr ⊢
   cases hf:f F.body ⟨fm 0 ak,[],0,0⟩ with
   | none=>simp [hf] at hr
   | some q=>rw [h _ _ _ hf];simpa only [hf] using hr
def O6 (h:Le f g) (hp:Hp) (ct:Nat) (n:Nat) (ak:List AV) (r:AV×Hp×Nat) (hr:iA P L f hp ct n ak=some r):iA P L g hp ct n ak=some r:=by
 unfold iA at hr ⊢
 cases hL:L.heap n with
 | some sp=>simpa only [hL] using hr
 | none=>
  simp only [hL] at hr ⊢
  cases hP:P n with
  | none=>simp [hP] at hr
  | some F=>
   simp only [hP] at hr ⊢
   cases hf:f F.body ⟨fm 0 ak,hp,ct,ct⟩ with
   | none=>simp [hf] at hr
   | some q=>rw [h _ _ _ hf];simpa only [hf] using hr
def V7 (h:Le f g) (hp:Hp) (ct:Nat) (l:Nat) (xs:List AV) (r:AV×Hp×Nat) (hr:mD f hp ct l xs=some r):mD g hp ct l xs=some r:=by
 unfold mD at hr ⊢
 cases hl:aw hp l with
 | none=>simp [hl] at hr
 | some o=>
  simp only [hl] at hr ⊢
  split at hr
  ·rename_i tm ps cK body pe nh;simp only [yc] at nh;subst nh
   (try simp only at hr ⊢)
   cases hb:pP tm ps xs with
   | none=>simp [hb] at hr
   | some cu=>
    simp only [hb] at hr ⊢
    cases h1:f cK ⟨cu,hp,ct,ct⟩ with
    | none=>simp [h1] at hr
    | some q=>
     rw [h _ _ _ h1];simp only [h1] at hr ⊢
     split at hr
     ·rename_i s1 R3;simp only [yc] at R3;subst R3
      (try simp only at hr ⊢)
      split at hr
      ·rename_i jm CD CE B3 sR adk
       (try simp only [adk])
       cases h2:f body ⟨s1.tm,bh s1.hp l (.lp jm CD CE B3 1 sR),s1.ct,s1.ct⟩ with
       | none=>simp [h2] at hr
       | some q2=>rw [h _ _ _ h2];simpa only [h2] using hr
      ·simp at hr
     ·simp at hr
  ·simp at hr
def Wn (h:Le f g) (hp:Hp) (ct:Nat) (m:Md) (fv:AV) (xs:List AV) (r:AV×Hp×Nat) (hr:eG P L f hp ct m fv xs=some r):eG P L g hp ct m fv xs=some r:=by
 unfold eG at hr ⊢
 split at hr
 ·rename_i n first cap
  cases m with
  | pure=>
   simp only at hr ⊢
   cases hz:cB deep hp (first++(xs++cap)) with
   | none=>simp [hz] at hr
   | some q=>
    simp only [hz] at hr ⊢
    cases hc:bN P L f n q.1 with
    | none=>simp [hc] at hr
    | some u=>rw [O0 h n q.1 u hc];simpa only [hc] using hr
  | own=>
   simp only at hr ⊢
   cases hz:cB deep hp (first++(xs++cap)) with
   | none=>simp [hz] at hr
   | some q=>
    simp only [hz] at hr ⊢
    cases hc:bN P L f n q.1 with
    | none=>simp [hc] at hr
    | some u=>rw [O0 h n q.1 u hc];simpa only [hc] using hr
  | heap=>exact O6 h _ _ _ _ _ hr
  | dyn=>
   simp only at hr ⊢
   cases hz:aK (first++(xs++cap)) with
   | true=>
    simp only [hz,yy] at hr ⊢
    cases hc:bN P L f n (first++(xs++cap)) with
    | none=>simp [hc] at hr
    | some u=>rw [O0 h n _ u hc];simpa only [hc] using hr
   | false=>
    simp only [hz,yM] at hr ⊢;exact O6 h _ _ _ _ _ hr
 ·split at hr
  ·exact V7 h _ _ _ _ _ hr
  ·exact V7 h _ _ _ _ _ hr
  ·simp at hr
 ·simp at hr
def XF (h:Le f g) (tm:Env) (hp:Hp) (ct:Nat) (o:Op) (r:AV×Hp×Nat) (hr:bn P L f tm hp ct o=some r):bn P L g tm hp ct o=some r:=by
 unfold bn at hr ⊢
 split at hr
 ·exact Wn h _ _ _ _ _ _ hr
 ·rename_i rs fv xs
  (try simp only at hr ⊢)
  cases hc:eG P L f hp ct .dyn (az tm fv) (di tm xs) with
  | none=>simp [hc] at hr
  | some q=>rw [Wn h _ _ _ _ _ _ hc];simpa only [hc] using hr
 all_goals simpa only using hr
def KG (h:Le f g):∀(ops:List bg) (s s':St),dw P L f ops s=some s'->dw P L g ops s=some s'
 | [],s,s',hr=>by simpa only [dw] using hr
 | ⟨d,gd,o⟩::r,s,s',hr=>by
  simp only [dw] at hr ⊢
  split at hr
  ·rename_i hw
   try simp only [hw]
   cases ho:bn P L f s.tm s.hp s.ct o with
   | none=>simp [ho] at hr
   | some q=>rw [XF h _ _ _ _ _ ho];simp only [ho] at hr ⊢;exact KG h r _ _ hr
  ·rename_i hw
   (try simp only [hw]);exact KG h r _ _ hr
  ·simp at hr
def oI (h:Le f g):∀(c:VC) (s:St) (r:Ex×St),bD P L f c s=some r->bD P L g c s=some r
 | .skip,s,r,hr=>by simpa only [bD] using hr
 | .aP ops,s,r,hr=>by
  simp only [bD] at hr ⊢
  cases ho:dw P L f ops s with
  | none=>simp [ho] at hr
  | some s'=>rw [KG h _ _ _ ho];simpa only [ho] using hr
 | .seq a b,s,r,hr=>by
  simp only [bD] at hr ⊢
  cases ha:bD P L f a s with
  | none=>simp [ha] at hr
  | some q=>
   rw [oI h a s q ha];obtain ⟨ex,s1⟩:=q
   cases ex with
   | normal=>simp only [ha] at hr ⊢;exact oI h b s1 r hr
   | ret=>simpa only [ha] using hr
   | exit id=>simpa only [ha] using hr
 | .cond x a b,s,r,hr=>by
  simp only [bD] at hr ⊢
  split at hr
  ·rename_i t ht
   try simp only [ht]
   cases t with
   | true=>simp only [yy] at hr ⊢;exact oI h a s r hr
   | false=>simp only [yM] at hr ⊢;exact oI h b s r hr
  ·simp at hr
 | .aJ id a,s,r,hr=>by
  simp only [bD] at hr ⊢
  cases ha:bD P L f a s with
  | none=>simp [ha] at hr
  | some q=>rw [oI h a s q ha];simpa only [ha] using hr
 | .kp live,s,r,hr=>by simpa only [bD] using hr
 | .fz ts,s,r,hr=>by simpa only [bD] using hr
 | .loop live a,s,r,hr=>by
  simp only [bD] at hr ⊢
  cases ha:bD P L f a (bf live s) with
  | none=>simp [ha] at hr
  | some q=>
   rw [oI h a _ q ha];obtain ⟨ex,s1⟩:=q
   cases ex with
   | normal=>simp only [ha] at hr ⊢;exact h _ _ _ hr
   | ret=>simpa only [ha] using hr
   | exit id=>simpa only [ha] using hr
 | .rf fv ps cK body,s,r,hr=>by
  simp only [bD] at hr ⊢
  split at hr
  ·rename_i n first cap hx
   try simp only [hx]
   split at hr
   ·simp at hr
   ·rename_i hL
    try simp only [hL]
    cases hc:iA P L f ((s.ct,.lp s.tm ps cK body 0 .none)::s.hp) (s.ct+1) n (first++(.fn (.y s.ct) [] []::cap)) with
    | none=>simp [hc] at hr
    | some q=>rw [O6 h _ _ _ _ _ hc];simpa only [hc] using hr
  ·simp at hr
 | .exit id,s,r,hr=>by simpa only [bD] using hr
 | .ret,s,r,hr=>by simpa only [bD] using hr
end
def Ha (P:aI) (L:Lib) (c:VC) (s:St):ev P L 0 c s=none:=rfl
def Hb (P:aI) (L:Lib) (n:Nat):ev P L (n+1)=bD P L (ev P L n):=rfl
def abD (P:aI) (L:Lib):∀n,Le (ev P L n) (ev P L (n+1))
 | 0=>fun c s r h=>by rw [Ha] at h;cases h
 | n+1=>fun c s r h=>by
  rw [Hb] at h ⊢;exact oI (abD P L n) c s r h
def Qk (P:aI) (L:Lib) {n m:Nat} (h:n<=m):Le (ev P L n) (ev P L m):=by
 induction h with
 | refl=>exact fun _ _ _ h=>h
 | step _ ih=>exact fun c s r hr=>abD P L _ c s r (ih c s r hr)
end
section
open Go
section
variable {O:bq} {self:cF}
def eE.none {m:Mp} {S:Nat->Prop} {w:yg} {s s':St} {ex:Ex} {n lo:Nat} {a:Act} {w':yg} (l:Nat):¬eE O m S w s ex s' n lo (.goto l) a w':=by
 rintro ⟨h,_⟩;cases ex<;>cases h
def eE.then {m m1:Mp} {S S1:Nat->Prop} {w w1:yg} {s s1 s2:St} {ex:Ex} {n lo:Nat} {a':Act} {w':yg} {e:Exit} {ex1:Ex} (h1:s1.base=s.base)
  (hf:cm m S w s.hp m1 S1 w1 s1.hp s.base) (h:eE O m1 S1 w1 s1 ex s2 n lo e a' w'):eE O m S w s ex s2 n lo e a' w':=by
 obtain ⟨h2,m',S',k1,k2,k3,k4,k5,k6,k7⟩:=h;rw [h1] at k3 k4 k5;exact ⟨h2,m',S',k1,k2,k3,k4,hf.trans k5,k6,k7⟩
def eE.dN {m:Mp} {S:Nat->Prop} {w:yg} {s s1:St} {n lo:Nat} {a':Act} {w':yg} {e:Exit} {ex:Ex} (live:List Nat) (h:eE O m S w s ex s1 n lo e a' w'):eE O m S w s ex (bf live s1) n lo e a' w':=by
 obtain ⟨h2,m',S',k1,k2,k3,k4,k5,k6,k7⟩:=h;obtain ⟨m2,g1,g2,g3,g4,g5⟩:=Pf (live:=live) k1 k2 (by rw [k3];exact k4)
 rw [k3] at g3 g4 g5;exact ⟨h2,m2,S',g1,g2,g3,g4,k5.trans g5,k6,zD k2 g5 k7⟩
def abE {m:Mp} {w:yg} {tmps:Array ye}:∀{ts:List Nat} {s s1:St} {S:Nat->Prop},cf O m S w s.tm tmps->aV O m S w s.hp s.ct->nR ts s=some s1->
  ∃S1,cf O m S1 w s1.tm tmps/\aV O m S1 w s1.hp s1.ct/\s1.base=s.base/\s1.ct=s.ct/\∀base,cm m S w s.hp m S1 w s1.hp base
 | [],s,s1,S,ht,hh,h=>by
  simp only [nR,yc] at h;subst h;exact ⟨S,ht,hh,rfl,rfl,fun _=>cm.refl⟩
 | t::r,s,s1,S,ht,hh,h=>by
  simp only [nR] at h
  cases hz:freeze deep s.hp (aj s.tm t) with
  | none=>simp [hz] at h
  | some q=>
   obtain ⟨v,hp⟩:=q;simp only [hz] at h;obtain ⟨h1,h2,h3⟩:=Pu (O:=O) hz;have hg:ia s.hp s.ct hp s.ct:=⟨h1,yv _,fun id o ho=>(by
     have:=h2 id
     rw [ho] at this
     cases hq:aw s.hp id with
     | none=>rw [hq] at this;simp at this
     | some o'=>exact hh.a6 id o' hq),fun id o ho _=>(by
     have:=h2 id
     rw [ho] at this
     cases hq:aw s.hp id with
     | none=>rw [hq] at this;simp at this
     | some o'=>exact ⟨o',rfl⟩)⟩
   obtain ⟨S',k1,k2,k3,k4⟩:=K4 hh hg;have zc:cf O m S' w ((t,v)::s.tm) tmps:=by
    intro i;simp only [aj]
    cases hb:yt t i with
    | true=>
     have:=yk hb
     subst this;exact (h3 hp m S' w s.ct da.refl k1).1 _ (lf (fun _ _ h=>h) k2 (fun _ _=>rfl) _ _ (ht t))
    | false=>
     exact lf (fun _ _ h=>h) k2 (fun _ _=>rfl) _ _ (ht i)
   obtain ⟨S1,g1,g2,g3,g4,g5⟩:=abE (s:={s with tm:=(t,v)::s.tm,hp:=hp}) zc k1 h;exact ⟨S1,g1,g2,g3,g4,fun base=>(k4 base).trans (g5 base)⟩
def Zk (hO:ej O) (n:Nat) (hC:∀k,k<=n->mE O (ev O.prog O.aT k)) (h:Nat):∀(c:wL) (l k:Nat) (j:Nat),j<=n->∀(s:St) (ex:Ex) (s':St),
  bD O.prog O.aT (ev O.prog O.aT j) (comp O.P (O.hint h) c l k).1 s=some (ex,s')->Ab O h c s ex s':=by
 have refl:∀{s:St} {ex:Ex} {m:Mp} {S:Nat->Prop} {w:yg} {a:Act} {lo:Nat},cf O m S w s.tm a.tmps->aV O m S w s.hp s.ct->s.base<=s.ct->Marks lo S w a.defers->eE O m S w s ex s a.tmps.size lo (oY ex) a w:=
  fun h1 h2 h3 h4=>⟨rfl,_,_,h1,h2,rfl,h3,cm.refl,rfl,h4⟩
 have R4:∀{self:cF} {s:St} {r:Ex×St},bD O.prog O.aT self (.aP [⟨none,none,bad⟩]) s=some r->False:=by
  intro self s r hv;simp [bD,dw,bad,bn,eG,az] at hv
 intro c
 induction c with
 | skip=>
  intro l k j hj s ex s' hv ro lo m S w a cU ht hh hb hn bi eQ cM;simp only [comp,bD,yc,ym] at hv;obtain ⟨rfl,rfl⟩:=hv;exact wpIn_skip (refl ht hh hb cM)
 | label x=>
  intro l k j hj s ex s' hv ro lo m S w a cU ht hh hb hn bi eQ cM;simp only [comp,bD,yc,ym] at hv;obtain ⟨rfl,rfl⟩:=hv;exact wpIn_label (refl ht hh hb cM)
 | exit id=>
  intro l k j hj s ex s' hv ro lo m S w a cU ht hh hb hn bi eQ cM;simp only [comp,bD,yc,ym] at hv;obtain ⟨rfl,rfl⟩:=hv
  exact wpIn_exit (refl (ex:= .exit id) ht hh hb cM)
 | ret=>
  intro l k j hj s ex s' hv ro lo m S w a cU ht hh hb hn bi eQ cM;simp only [comp,bD,yc,ym] at hv;obtain ⟨rfl,rfl⟩:=hv
  exact wpIn_ret (refl (ex:= .ret) ht hh hb cM)
 | goto x=>intro l k j hj s ex s' hv;exact (R4 (by simpa only [comp] using hv)).elim
 | refuse x=>intro l k j hj s ex s' hv;exact (R4 (by simpa only [comp] using hv)).elim
 | region id ops d=>
  intro l k j hj s ex s' hv;simp only [comp] at hv;generalize hq:Ln O.P (O.hint h) ops d k=q at hv;obtain ⟨r,k'⟩:=q;have main:∀{s s':St} {ex:Ex},bD O.prog O.aT (ev O.prog O.aT j) (.aP r) s=some (ex,s')->Ab O h (.region id ops d) s ex s':=by
   intro s s' ex hv;simp only [bD] at hv
   cases ho:dw O.prog O.aT (ev O.prog O.aT j) r s with
   | none=>simp [ho] at hv
   | some s1=>
    simp only [ho,yc,ym] at hv;obtain ⟨rfl,rfl⟩:=hv;exact aoq hO (hC j hj) h id ops d k (by rw [hq];exact ho)
  simp only at hv
  split at hv
  ·exact main hv
  ·rename_i t ts _;simp only [bD] at hv
   cases hf:nR (t::ts) s with
   | none=>simp [hf] at hv
   | some s1=>
    simp only [hf] at hv;intro ro lo m S w a cU ht hh hb hn bi eQ cM;obtain ⟨S1,g1,g2,g3,g4,g5⟩:=abE ht hh hf;have h1:=main (s:=s1) (by simpa only [bD] using hv) ro lo m S1 w a cU g1 g2 (by rw [g3,g4];exact hb) hn bi eQ (zD hh (g5 s.base) cM)
    refine wpIn_mono h1 (fun e a' w' hp=>?_)
    exact eE.then (ex1:= .normal) g3 (g5 s.base) hp
 | seq x y ihx ihy=>
  intro l k j hj s ex s' hv ro lo m S w a cU ht hh hb hn bi eQ cM;simp only [comp] at hv;generalize qW:comp O.P (O.hint h) x l k=qx at hv;obtain ⟨x',l1,k1⟩:=qx;simp only at hv;generalize JD:comp O.P (O.hint h) y l1 k1=qy at hv;obtain ⟨y',l2,k2⟩:=qy;simp only [bD] at hv
  cases hx:bD O.prog O.aT (ev O.prog O.aT j) x' s with
  | none=>simp [hx] at hv
  | some r=>
   obtain ⟨ex1,s1⟩:=r;have h1:=ihx l k j hj s ex1 s1 (by rw [qW];exact hx) ro lo m S w a cU ht hh hb hn bi eQ cM
   refine wpIn_seq (wpIn_mono h1 ?_);rintro e a1 w1 ⟨rfl,m1,S1,g1,g2,g3,g4,g5,g6,g7⟩;have stop:ex1≠.normal->ex=ex1/\s'=s1:=by
    intro fC;rw [hx] at hv
    cases ex1 with
    | normal=>exact absurd rfl fC
    | ret=>simp only [yc,ym] at hv;exact ⟨hv.1.symm,hv.2.symm⟩
    | exit id=>simp only [yc,ym] at hv;exact ⟨hv.1.symm,hv.2.symm⟩
   cases ex1 with
   | normal=>
    simp only [hx] at hv;simp only [oY,Exit.then];have h2:=ihy l1 k1 j hj s1 ex s' (by rw [JD];exact hv) ro lo m1 S1 w1 a1 (KR g5 cU) g1 g2 (by rw [g3];exact g4) (by rw [g6];exact hn) bi (xj eQ g5.size) g7
    rw [g6] at h2
    exact wpIn_mono h2 (fun e a' w' hp=>eE.then (ex1:= .normal) g3 g5 hp)
   | ret=>
    obtain ⟨rfl,rfl⟩:=stop (by simp);exact ⟨rfl,m1,S1,g1,g2,g3,g4,g5,g6,g7⟩
   | exit id=>
    obtain ⟨rfl,rfl⟩:=stop (by simp);exact ⟨rfl,m1,S1,g1,g2,g3,g4,g5,g6,g7⟩
 | cond x p q ihp ihq=>
  intro l k j hj s ex s' hv ro lo m S w a cU ht hh hb hn bi eQ cM;simp only [comp] at hv;generalize qW:comp O.P (O.hint h) p (l+1) k=qx at hv;obtain ⟨p',l1,k1⟩:=qx;simp only at hv;generalize JD:comp O.P (O.hint h) q l1 k1=qy at hv;obtain ⟨q',l2,k2⟩:=qy;simp only at hv;have main:∀(ex:Ex) (s':St),bD O.prog O.aT (ev O.prog O.aT j) (.cond (aS (O.hint h) x) p' q') s=some (ex,s')->(Code.cond x p q).wpIn (WF ro) 0 O.P (eE O m S w s ex s' a.tmps.size lo) a w:=by
   intro ex s' hv;simp only [bD] at hv;have rx:=cD (hO.hint h) ht x
   split at hv
   ·rename_i t hx;rw [hx] at rx;simp only [ai] at rx
    cases t with
    | true=>
     simp only [yy] at hv;exact wpIn_cond_true rx (ihp (l+1) k j hj s ex s' (by rw [qW];exact hv) ro lo m S w a cU ht hh hb hn bi eQ cM)
    | false=>
     simp only [yM] at hv;exact wpIn_cond_false rx (ihq l1 k1 j hj s ex s' (by rw [JD];exact hv) ro lo m S w a cU ht hh hb hn bi eQ cM)
   ·cases hv
  cases Em:(O.hint h).out l with
  | none=>rw [Em] at hv;exact main ex s' hv
  | some live=>
   rw [Em] at hv;simp only at hv;rw [show bD O.prog O.aT (ev O.prog O.aT j) (.seq (.cond (aS (O.hint h) x) p' q') (.kp live)) s=match bD O.prog O.aT (ev O.prog O.aT j) (.cond (aS (O.hint h) x) p' q') s with | some (.normal,s1)=>some (.normal,bf live s1) | r=>r from rfl] at hv
   cases hx:bD O.prog O.aT (ev O.prog O.aT j) (.cond (aS (O.hint h) x) p' q') s with
   | none=>simp [hx] at hv
   | some r=>
    obtain ⟨ex1,s1⟩:=r;have h1:=main ex1 s1 hx;rw [hx] at hv
    cases ex1 with
    | normal=>
     simp only [yc,ym] at hv;obtain ⟨rfl,rfl⟩:=hv;exact wpIn_mono h1 (fun e a' w' hp=>eE.dN live hp)
    | ret=>simp only [yc,ym] at hv;obtain ⟨rfl,rfl⟩:=hv;exact h1
    | exit id=>simp only [yc,ym] at hv;obtain ⟨rfl,rfl⟩:=hv;exact h1
 | block id x ih=>
  intro l k j hj s ex s' hv ro lo m S w a cU ht hh hb hn bi eQ cM;simp only [comp] at hv;generalize qW:comp O.P (O.hint h) x l k=qx at hv;obtain ⟨x',r⟩:=qx;simp only at hv;have main:∀(ex:Ex) (s':St),bD O.prog O.aT (ev O.prog O.aT j) (.aJ id x') s=some (ex,s')->(Code.block id x).wpIn (WF ro) 0 O.P (eE O m S w s ex s' a.tmps.size lo) a w:=by
   intro ex s' hv;simp only [bD] at hv
   cases hx:bD O.prog O.aT (ev O.prog O.aT j) x' s with
   | none=>simp [hx] at hv
   | some q=>
    obtain ⟨ex1,s1⟩:=q;have h1:=ih l k j hj s ex1 s1 (by rw [qW];exact hx) ro lo m S w a cU ht hh hb hn bi eQ cM
    refine wpIn_block (wpIn_mono h1 ?_);rintro e a1 w1 ⟨rfl,g⟩
    cases ex1 with
    | normal=>
     simp only [hx,yc,ym] at hv;obtain ⟨rfl,rfl⟩:=hv;exact ⟨rfl,g⟩
    | ret=>
     simp only [hx,yc,ym] at hv;obtain ⟨rfl,rfl⟩:=hv;exact ⟨rfl,g⟩
    | exit i=>
     simp only [hx] at hv
     cases N5:yt i id with
     | true=>
      rw [N5] at hv;simp only [yy,yc,ym] at hv;obtain ⟨rfl,rfl⟩:=hv
      have:=yk N5
      subst this;simp only [oY,Exit.inBlock,xh];exact ⟨rfl,g⟩
     | false=>
      rw [N5] at hv;simp only [yM,yc,ym] at hv;obtain ⟨rfl,rfl⟩:=hv;have fC:i≠id:=fun e=>by subst e;simp at N5
      simp only [oY,Exit.inBlock,fC,y8];exact ⟨rfl,g⟩
  have aqT:∀live:List Nat,bD O.prog O.aT (ev O.prog O.aT j) (.seq (.aJ id x') (.kp live)) s=some (ex,s')->(Code.block id x).wpIn (WF ro) 0 O.P (eE O m S w s ex s' a.tmps.size lo) a w:=by
   intro live hv;rw [show bD O.prog O.aT (ev O.prog O.aT j) (.seq (.aJ id x') (.kp live)) s=match bD O.prog O.aT (ev O.prog O.aT j) (.aJ id x') s with | some (.normal,s1)=>some (.normal,bf live s1) | r=>r from rfl] at hv
   cases hx:bD O.prog O.aT (ev O.prog O.aT j) (.aJ id x') s with
   | none=>simp [hx] at hv
   | some r=>
    obtain ⟨ex1,s1⟩:=r;have h1:=main ex1 s1 hx;rw [hx] at hv
    cases ex1 with
    | normal=>
     simp only [yc,ym] at hv;obtain ⟨rfl,rfl⟩:=hv;exact wpIn_mono h1 (fun e a' w' hp=>eE.dN live hp)
    | ret=>simp only [yc,ym] at hv;obtain ⟨rfl,rfl⟩:=hv;exact h1
    | exit id=>simp only [yc,ym] at hv;obtain ⟨rfl,rfl⟩:=hv;exact h1
  split at hv
  ·exact aqT _ hv
  ·exact main ex s' hv
 | loop x ih=>
  intro l k j hj s ex s' hv;simp only [comp] at hv;generalize qW:comp O.P (O.hint h) x (l+1) k=qx at hv;obtain ⟨x',r⟩:=qx;simp only at hv;have rounds:∀(j:Nat),j<=n->∀(s:St) (ex:Ex) (s':St),bD O.prog O.aT (ev O.prog O.aT j) (.loop ((O.hint h).live l) x') s=some (ex,s')->∃K,∀(ro:Option Nat) (lo:Nat) (m:Mp) (S:Nat->Prop) (w:yg) (a:Act),rT ro w->cf O m S w s.tm a.tmps->aV O m S w s.hp s.ct->s.base<=s.ct->(O.hint h).n<=a.tmps.size->O.w0.heap.size<=lo->lo<=w.heap.size->Marks lo S w a.defers->
    Code.roundsIn (WF ro) 0 O.P x (eE O m S w s ex s' a.tmps.size lo) K a w:=by
   intro j
   induction j with
   | zero=>
    intro hj s ex s' hv;simp only [bD] at hv
    cases hx:bD O.prog O.aT (ev O.prog O.aT 0) x' (bf ((O.hint h).live l) s) with
    | none=>simp [hx] at hv
    | some q=>
     obtain ⟨ex1,s1⟩:=q;have stop:ex1≠.normal->ex=ex1/\s'=s1:=by
      intro fC;rw [hx] at hv
      cases ex1 with
      | normal=>exact absurd rfl fC
      | ret=>simp only [yc,ym] at hv;exact ⟨hv.1.symm,hv.2.symm⟩
      | exit id=>simp only [yc,ym] at hv;exact ⟨hv.1.symm,hv.2.symm⟩
     refine ⟨1,fun ro lo m S w a cU ht hh hb hn bi eQ cM=>?_⟩;rw [roundsIn_succ];obtain ⟨m1,c1,c2,c3,c4,c5⟩:=Pf (live:=(O.hint h).live l) ht hh hb;have h1:=ih (l+1) k 0 hj _ ex1 s1 (by rw [qW];exact hx) ro lo m1 S w a cU c1 c2 (by rw [c3];exact c4) hn bi eQ cM
     refine wpIn_mono h1 ?_;rintro e a1 w1 hp;have an:=eE.then (O:=O) (m:=m) (S:=S) (w:=w) (s:=s) (ex1:= .normal) c3 c5 hp;obtain ⟨rfl,_⟩:=hp
     cases ex1 with
     | normal=>simp only [hx,Ha] at hv;cases hv
     | ret=>obtain ⟨rfl,rfl⟩:=stop (by simp);exact an
     | exit id=>obtain ⟨rfl,rfl⟩:=stop (by simp);exact an
   | succ j ihj=>
    intro hj s ex s' hv;simp only [bD] at hv
    cases hx:bD O.prog O.aT (ev O.prog O.aT (j+1)) x' (bf ((O.hint h).live l) s) with
    | none=>simp [hx] at hv
    | some q=>
     obtain ⟨ex1,s1⟩:=q;have stop:ex1≠.normal->ex=ex1/\s'=s1:=by
      intro fC;rw [hx] at hv
      cases ex1 with
      | normal=>exact absurd rfl fC
      | ret=>simp only [yc,ym] at hv;exact ⟨hv.1.symm,hv.2.symm⟩
      | exit id=>simp only [yc,ym] at hv;exact ⟨hv.1.symm,hv.2.symm⟩
     have more:∃K,ex1= .normal->∀(ro:Option Nat) (lo:Nat) (m:Mp) (S:Nat->Prop) (w:yg) (a:Act),rT ro w->cf O m S w s1.tm a.tmps->aV O m S w s1.hp s1.ct->s1.base<=s1.ct->(O.hint h).n<=a.tmps.size->O.w0.heap.size<=lo->lo<=w.heap.size->Marks lo S w a.defers->
       Code.roundsIn (WF ro) 0 O.P x (eE O m S w s1 ex s' a.tmps.size lo) K a w:=by
      cases ex1 with
      | normal=>
       rw [hx] at hv;have ef:ev O.prog O.aT (j+1) (.loop ((O.hint h).live l) x') s1=some (ex,s'):=hv;rw [Hb] at ef;obtain ⟨K,hK⟩:=ihj (by omega) s1 ex s' ef;exact ⟨K,fun _=>hK⟩
      | ret=>exact ⟨0,fun h=>by cases h⟩
      | exit id=>exact ⟨0,fun h=>by cases h⟩
     obtain ⟨K,hK⟩:=more;refine ⟨K+1,fun ro lo m S w a cU ht hh hb hn bi eQ cM=>?_⟩;rw [roundsIn_succ];obtain ⟨m1,c1,c2,c3,c4,c5⟩:=Pf (live:=(O.hint h).live l) ht hh hb;have h1:=ih (l+1) k (j+1) hj _ ex1 s1 (by rw [qW];exact hx) ro lo m1 S w a cU c1 c2 (by rw [c3];exact c4) hn bi eQ cM
     refine wpIn_mono h1 ?_;rintro e a1 w1 hp;have an:=eE.then (O:=O) (m:=m) (S:=S) (w:=w) (s:=s) (ex1:= .normal) c3 c5 hp;obtain ⟨rfl,_⟩:=hp
     cases ex1 with
     | normal=>
      simp only [oY,Exit.then];obtain ⟨_,m2,S2,g1,g2,g3,g4,g5,g6,g7⟩:=an;have h2:=hK rfl ro lo m2 S2 w1 a1 (KR g5 cU) g1 g2 (by rw [g3];exact g4) (by rw [g6];exact hn) bi (xj eQ g5.size) g7
      rw [g6] at h2;revert h2;generalize hA:a.tmps.size=sz;intro h2;have step:∀(K:Nat) (a':Act) (w':yg),Code.roundsIn (WF ro) 0 O.P x (eE O m2 S2 w1 s1 ex s' sz lo) K a' w'->Code.roundsIn (WF ro) 0 O.P x (eE O m S w s ex s' sz lo) K a' w':=by
       intro K
       induction K with
       | zero=>intro a' w' AW;exact AW
       | succ K ihK=>
        intro a' w' AW;rw [roundsIn_succ] at AW ⊢;refine wpIn_mono AW (fun e a'' NQ hq=>?_)
        cases e with
        | normal=>exact ihK a'' NQ hq
        | exit id=>exact eE.then (ex1:= .normal) g3 g5 hq
        | goto x=>exact eE.then (ex1:= .normal) g3 g5 hq
        | ret=>exact eE.then (ex1:= .normal) g3 g5 hq
        | panic x=>exact eE.then (ex1:= .normal) g3 g5 hq
        | outgrown=>exact eE.then (ex1:= .normal) g3 g5 hq
      exact step K a1 w1 h2
     | ret=>obtain ⟨rfl,rfl⟩:=stop (by simp);exact an
     | exit id=>obtain ⟨rfl,rfl⟩:=stop (by simp);exact an
  obtain ⟨K,hK⟩:=rounds j hj s ex s' hv;intro ro lo m S w a cU ht hh hb hn bi eQ cM;exact wpIn_loop_rounds K (hK ro lo m S w a cU ht hh hb hn bi eQ cM)
 | scope x ih=>
  intro l k j hj s ex s' hv ro lo m S w a cU ht hh hb hn bi eQ cM;simp only [comp] at hv;exact ag3 (ih l k j hj s ex s' hv ro lo m S w a cU ht hh hb hn bi eQ cM) (fun l a w=>eE.none l)
 | rangeFunc f ps cK body iha ihb=>
  intro l k j hj s ex s' hv;simp only [comp] at hv;generalize qW:comp O.P (O.hint h) cK l k=qx at hv;obtain ⟨x',l1,k1⟩:=qx;simp only at hv;generalize JD:comp O.P (O.hint h) body l1 k1=qy at hv;obtain ⟨y',l2,k2⟩:=qy;simp only at hv
  cases ha:rY (O.hint h).n ps.toList with
  | false=>rw [ha] at hv;exact (R4 hv).elim
  | true=>
   rw [ha] at hv;exact aqS hO (hC j hj) ⟨l,k,by rw [qW]⟩ ⟨l1,k1,by rw [JD]⟩ ha hv
end
end
section
open Go
section
variable {O:bq} {m:Mp} {S:Nat->Prop} {w:yg}
def XG:∀(ak:List AV) (j i:Nat),aj (fm j ak) (j+i)=ak.getD i .undef
 | [],j,i=>by simp [fm,aj]
 | v::r,j,i=>by
  cases i with
  | zero=>simp [fm,aj]
  | succ i=>
   simp only [fm,aj];have hb:yt j (j+(i+1))=false:=by
    cases hq:yt j (j+(i+1)) with
    | false=>rfl
    | true=>have:=yk hq;omega
   rw [hb,show j+(i+1)=j+1+i by omega];rw [XG r (j+1) i]
   simp
def XH {ak:List AV} {args:Array ye} (n:Nat) (h:ap O.ah m S w ak args.toList):cf O m S w (fm 0 ak) (args++uj n undef):=by
 intro i
 have:=XG ak 0 i
 rw [Nat.zero_add] at this;rw [this,List.getD_eq_getElem?_getD]
 cases hv:ak[i]? with
 | none=>simp only [Option.getD_none,ai]
 | some v=>
  obtain ⟨u,h1,h2⟩:=PO h hv;have hl:i<args.size:=by
   grind
  have:(args++uj n undef).getD i undef=u:=by
   rw [Array.getD_eq_getD_getElem?,Array.getElem?_append_left hl]
   grind
  grind
def En (tmps:Array ye):ybo->Sem ye
 | .tmp t=>pure (tmps.getD t undef)
 | .cell a t=>do loadVar t (<-asAddr (tmps.getD a undef))
def ag4 (fn:td) (tmps:Array ye):results fn tmps=(do let vs <-fn.results.mapM (En tmps);pure (if h:vs.size=1 then vs[0] else .tuple vs)):=by
 rfl
def Ph {s:St} {ct:Nat} {tmps:Array ye} (hh:aV O m S w s.hp ct) (ht:cf O m S w s.tm tmps):∀{rs:List ybo} {rv:List RV} {vs:List AV},nH O.P rs=some rv->kA s rv=some vs->
  ∃us,(rs.mapM (En tmps)).run O.P w= .ok us w/\ap O.ah m S w vs us
 | [],rv,vs,h1,h2=>by
  simp only [nH,yc] at h1;subst h1;simp only [kA,yc] at h2;subst h2;exact ⟨[],by simp,by simp [ap]⟩
 | .tmp t::rs,rv,vs,h1,h2=>by
  simp only [nH] at h1
  cases hc:nH O.P rs with
  | none=>simp [hc] at h1
  | some l=>
   simp only [hc,yc] at h1;subst h1;simp only [kA,results1] at h2
   cases hl:kA s l with
   | none=>simp [hl] at h2
   | some TG=>
    simp only [hl,yc] at h2;subst h2;obtain ⟨us,g1,g2⟩:=Ph hh ht hc hl;refine ⟨tmps.getD t undef::us,?_,by simp only [ap];exact ⟨_,_,rfl,ht t,g2⟩⟩
    rw [vK];simp only [En,Sem.run_bind,Sem.run_pure,Result.andThen_ok];rw [g1];rfl
 | .cell a t::rs,rv,vs,h1,h2=>by
  simp only [nH] at h1
  cases hz:cL O.P t with
  | none=>simp [hz] at h1
  | some sz=>
   cases JE:dE O.P t with
   | none=>simp [hz,JE] at h1
   | some ag=>
    cases hc:nH O.P rs with
    | none=>simp [hz,JE,hc] at h1
    | some l=>
     simp only [hz,JE,hc,yc] at h1;subst h1;simp only [kA] at h2
     cases cw:results1 s (.cell a sz ag) with
     | none=>simp [cw] at h2
     | some v=>
      cases hl:kA s l with
      | none=>simp [cw,hl] at h2
      | some TG=>
       simp only [cw,hl,yc] at h2;subst h2;obtain ⟨us,g1,g2⟩:=Ph hh ht hc hl;have ra:=ht a;have key:∃b o u,tmps.getD a undef= .pointer (some ⟨b,o,none⟩)/\(loadVar t ⟨b,o,none⟩).run O.P w= .ok u w/\ai O.ah m S w v u:=by
        simp only [results1] at cw;cases hta:aj s.tm a<;>rw [hta] at cw ra<;>simp only [reduceCtorEq] at cw
        ·rename_i id o;simp only [ai] at ra;obtain ⟨p,hm,hp⟩:=ra
         cases hg:aw s.hp id with
         | none=>simp [hg] at cw
         | some ob=>
          cases ob<;>simp only [hg,reduceCtorEq] at cw
          have Ul:=PN (o:=0) (n:=0) hh hg hm;obtain ⟨u,q1,q2⟩:=Lr hz JE (pG o _ p.b p.o Ul) cw;exact ⟨p.b,p.o+o,u,hp,q1,q2⟩
        ·rename_i cs;simp only [ai] at ra;obtain ⟨b,o,hp,_,_,Ul⟩:=ra;obtain ⟨u,q1,q2⟩:=Lr hz JE Ul cw;exact ⟨b,o,u,hp,q1,q2⟩
       obtain ⟨b,o,u,q1,q2,q3⟩:=key;refine ⟨u::us,?_,by simp only [ap];exact ⟨_,_,rfl,q3,g2⟩⟩
       rw [vK]
       have:(En tmps (.cell a t)).run O.P w= .ok u w:=by
        simp only [En];rw [q1];simp [asAddr,q2]
       rw [Sem.run_bind,this,Result.andThen_ok,Sem.run_bind,g1];rfl
def agw {s:St} {ct:Nat} {tmps:Array ye} {fn:td} {rv:List RV} {v:AV} (hh:aV O m S w s.hp ct) (ht:cf O m S w s.tm tmps) (h1:nH O.P fn.results.toList=some rv) (h2:iv s rv=some v):
  ∃u,(results fn tmps).run O.P w= .ok u w/\ai O.ah m S w v u:=by
 unfold iv at h2
 cases hl:kA s rv with
 | none=>simp [hl] at h2
 | some vs=>
  obtain ⟨us,g1,g2⟩:=Ph hh ht h1 hl;have hlen:=iw _ _ g2;have hm:(fn.results.mapM (En tmps)).run O.P w= .ok us.toArray w:=by
   rw [Array.mapM_eq_mapM_toList];simp [g1]
  have fW:(results fn tmps).run O.P w= .ok (if h:us.toArray.size=1 then us.toArray[0] else .tuple us.toArray) w:=by
   rw [ag4,Sem.run_bind,hm];rfl
  rw [hl] at h2
  split at h2
  ·rename_i v' nh;simp only [yc] at nh h2;subst nh;simp only [ap] at g2
   grind
  ·rename_i dQ fC nh;simp only [yc] at nh h2;subst nh;subst h2;have h1:¬us.toArray.size=1:=by
    intro h
    have:vs.length=1:=by simp_all
    cases vs with
    | nil=>simp at this
    | cons x t=>
     cases t with
     | nil=>exact fC x rfl
     | cons y t=>simp at this
   simp only [ai]
   grind
  ·grind
def PB {s:St} {tmps:Array ye} {fn:td} {rv:List RV} {v:AV} {m0:Mp} {S0:Nat->Prop} {w0:yg} {hp0:Hp} {N6:Nat} (h1:nH O.P fn.results.toList=some rv) (h2:iv s rv=some v) (gL:N6<=s.ct):∀(rs:List Nat) (w:yg),
  rs.Nodup->(∀r,r∈rs->w.heap[r]? =some (.deferred (some []))/\¬S r/\w0.heap.size<=r)->O.w0.heap.size<=w0.heap.size->aV O m S w s.hp s.ct->cf O m S w s.tm tmps->cm m0 S0 w0 hp0 m S w s.hp N6->
  ybr Fence.wide 0 O.P fn tmps (rF O m0 S0 w0 hp0 N6 v s.hp s.ct) (rs.map (fun r=>{target:= .collected r,args:=#[]})) .returning w
 | [],w,_,_,_,hh,ht,hf=>by
  obtain ⟨u,g1,g2⟩:=agw hh ht h1 h2;exact ⟨u,g1,u,m,S,rfl,hh,gL,g2,hf⟩
 | r::rs,w,kQ,hr,bi,hh,ht,hf=>by
  obtain ⟨lR,dT⟩:=List.nodup_cons.1 kQ;obtain ⟨a1,a2,a3⟩:=hr r List.mem_cons_self;have fw:=Dr w r (.deferred none);have nf:¬dR m s.hp r:=fun ho=>Ym hh ho _ a1
  have AW:=WS hh fw a2 nf (xj bi a3)
  have aR:fE S w {w with heap:=w.heap.setIfInBounds r (.deferred none)}:=fun b hb=>fw.other b (fun e=>a2 (e▸hb))
  have eb:cm m0 S0 w0 hp0 m S {w with heap:=w.heap.setIfInBounds r (.deferred none)} s.hp N6:=by
   refine ⟨hf.os,hf.tape,hf.output,by rw [fw.size];exact hf.size,fun b hb ho=>(fw.other b (by omega)).trans (hf.same b hb ho),hf.sub,fun b hb=>(fw.other b (fun e=>a2 (e▸hf.sub b hb))).trans (hf.still b hb),hf.new,hf.own,hf.old,fun b x hb=>?_⟩
   obtain ⟨x',hx⟩:=hf.loops b x hb;exact ⟨x',(fw.other b (fun e=>by subst e;rw [a1] at hx;cases hx)).trans hx⟩
  refine ⟨by simp,.inl ⟨r,_,rfl,?_,PB h1 h2 gL rs _ dT (fun r' bY=>?_) bi AW (zC (fun _ _ h=>h) (fun _ h=>h) aR ht) eb⟩⟩
  ·simp only [Instr.takeDeferred,Sem.run_bind,WT (P:=O.P) a1 (fun _ _ _=>by simp),Result.andThen_ok,KF (P:=O.P) a1 (fun _ _ _=>by simp),Sem.run_pure]
  ·obtain ⟨b1,b2,b3⟩:=hr r' (List.mem_cons_of_mem _ bY);exact ⟨(fw.other r' (fun e=>lR (e▸bY))).trans b1,b2,b3⟩
end
section
variable {O:bq} {self:cF}
def aqU (hO:ej O) (hS:∀v s ex s',self v s=some (ex,s')->∀c h l k,(comp O.P (O.hint h) c l k).1=v->Ab O h c s ex s') {n:Nat} {F:aB} (hF:O.prog n=some F) {hp:Hp} {ct:Nat} {ak:List AV} {ex:Ex} {s:St}
  (hv:self F.body ⟨fm 0 ak,hp,ct,ct⟩=some (ex,s)) (hex:ex= .normal\/ex= .ret) {v:AV} (hr:iv s F.dY=some v):Aa O n hp ct ak v s.hp s.ct:=by
 intro m S w args hh gE;obtain ⟨fn,q1,q2,q3⟩:=hO.prog n F hF;obtain ⟨c,q4,q5,q6,q7⟩:=O5 q2;refine .inl ⟨K8 q1 (by rw [q4];rfl) q3,?_⟩
 have hc:=hS _ _ _ _ hv c n 0 0 q5.symm;have hw:=hc none w.heap.size m S w {tmps:=args++uj (fn.ntmps-args.size) undef,defers:=[]} (fun l hl=>by cases hl) (XH _ gE) hh (yv _) (by simp;omega) hh.fF (yv _) ⟨[],rfl,by simp,by simp⟩
 refine callsIn_of_wp_marks (F:=Fence.wide) q1 q4 trivial (wpIn_mono hw ?_);rintro e a' w' ⟨rfl,m',S',k1,k2,k3,k4,k5,k6,rs,k7,k8,k9⟩;have main:ybr Fence.wide 0 O.P fn a'.tmps (rF O m S w hp ct v s.hp s.ct) a'.defers .returning w':=by
  rw [k7];exact PB q6 hr k4 rs w' k8 k9 hh.fF k2 k1 k5
 rcases hex with rfl | rfl
 ·exact main
 ·exact main
def zM.mono {P:y9} {f:tp} {args:Array ye} {w:yg} {R R':Ending->yg->Prop} (h:zM P f args w R) (hr:∀e w',R e w'->R' e w'):zM P f args w R':=by
 rcases h with ⟨h1,h2⟩ | ⟨u,w',h1,h2⟩
 ·exact .inl ⟨h1,CallsIn.mono h2 hr⟩
 ·exact .inr ⟨u,w',h1,hr _ _ h2⟩
def aie {w:yg} {S:Nat->Prop} (hg:z8 O w) (hs:∀b,S b->b<w.heap.size):aV O eM S w [] 0:=
 ⟨(fun id o p h _=>by simp [aw] at h),(fun id p h=>by cases h),(fun i j oi oj pi pj h=>by simp [aw] at h),hs,(fun id p h=>by cases h),(fun id p h=>by cases h),hg.1,hg.2,(fun id o h=>by simp [aw] at h)⟩
def PY {b:Nat} (h:dR eM [] b):False:=by
 obtain ⟨_,_,_,h,_⟩:=h;simp [aw] at h
def O2 {n:Nat} {ak:List AV} {v r:AV} {s:St} (h:Aa O n [] 0 ak v s.hp s.ct) (hr:result s.hp v=some r):ez O n ak r:=by
 intro w S args hg hs gE hp;refine zM.mono (h eM S w args (aie hg hs) gE) ?_;rintro e w' ⟨u,m',S',rfl,k1,k2,k3,k4⟩;have bi:∀b,dR m' s.hp b->w.heap.size<=b:=fun b hb=>(k4.own b hb).elim (fun h=>(PY h).elim) (fun h=>h)
 obtain ⟨S2,g1,g2,g3,g4⟩:=ah5 (lo:=w.heap.size) k1 hr k3 bi;refine ⟨u,S2,rfl,⟨k4.os,k4.tape,k4.output,k4.size,fun b hb=>k4.same b hb PY⟩,fun b hb=>g1 b (k4.sub b hb),fun b hb=>?_,g3,g4⟩;rcases g2 b hb with h | h
 ·rcases k4.new b h with h | h | h
  ·exact .inl h
  ·exact (PY h).elim
  ·exact .inr h
 ·exact .inr (bi b h)
def ag5 (hO:ej O) (hS:∀v s ex s',self v s=some (ex,s')->∀c h l k,(comp O.P (O.hint h) c l k).1=v->Ab O h c s ex s'):mE O self:=by
 have heap:∀(n:Nat) (F:aB),O.prog n=some F->∀(hp:Hp) (ct:Nat) (ak:List AV) (ex:Ex) (s:St) (v:AV),self F.body ⟨fm 0 ak,hp,ct,ct⟩=some (ex,s)->(ex= .normal\/ex= .ret)->iv s F.dY=some v->Aa O n hp ct ak v s.hp s.ct:=
  fun n F hF hp ct ak ex s v h1 h2 h3=>aqU hO hS hF h1 h2 h3
 refine ⟨?_,?_,fun hp ct l xs v an a7 hv=>aj5 hS hv⟩
 ·intro n ak r hv;unfold bN at hv
  cases hL:O.aT.pure n with
  | some sp=>rw [hL] at hv;exact hO.aT n sp ak r hL hv
  | none=>
   simp only [hL] at hv
   cases hF:O.prog n with
   | none=>simp [hF] at hv
   | some F=>
    simp only [hF] at hv
    split at hv
    ·rename_i s hb
     cases hr:iv s F.dY with
     | none=>simp [hr] at hv
     | some v=>simp only [hr] at hv;exact O2 (heap n F hF [] 0 ak .normal s v hb (.inl rfl) hr) hv
    ·rename_i s hb
     cases hr:iv s F.dY with
     | none=>simp [hr] at hv
     | some v=>simp only [hr] at hv;exact O2 (heap n F hF [] 0 ak .ret s v hb (.inr rfl) hr) hv
    ·cases hv
 ·intro hp ct n ak v an a7 hv;unfold iA at hv
  cases hL:O.aT.heap n with
  | some sp=>rw [hL] at hv;exact hO.Ek n sp hp ct ak v an a7 hL hv
  | none=>
   simp only [hL] at hv
   cases hF:O.prog n with
   | none=>simp [hF] at hv
   | some F=>
    grind
def Wo (hO:ej O):∀n,mE O (ev O.prog O.aT n):=by
 intro n
 induction n using Nat.strongRecOn with
 | _ n ih=>
  refine ag5 hO (fun v s ex s' hv c h l k hc=>?_)
  cases n with
  | zero=>rw [Ha] at hv;cases hv
  | succ n=>
   rw [Hb,<-hc] at hv;exact Zk hO n (fun k hk=>ih k (by omega)) h c l k n (yv _) s ex s' hv
def sound (hO:ej O) {n f:Nat} {ak:List AV} {r:AV} (h:TH O.prog O.aT n f ak=some r):ez O f ak r:=(Wo hO n).pure f ak r h
end
end
section
open Go (IntKind)
def fU:List Nat->List Nat->Bool
 | [],_=>true
 | a::x,b::y=>yt a b&&fU x y
 | _::_,[]=>false
def ll (sub:List Nat):List Nat->Nat->Option Nat
 | [],k=>bif fU sub [] then some k else none
 | b::r,k=>bif fU sub (b::r) then some k else ll sub r (k+1)
def MA:List AV->Option AV
 | [.str s,.str sep]=>
  bif yI s.length 4294967281 then
   match ll sep s 0 with
   | some i=>some (.aq [.str (s.take i),.str (s.drop (i+sep.length)),.bool true])
   | none=>some (.aq [.str s,.str [],.bool false])
  else none
 | _=>none
def KH:List AV->Option AV
 | [.str s,.str p]=>some (bif fU p s then .aq [.str (s.drop p.length),.bool true] else .aq [.str s,.bool false])
 | _=>none
def KI:List AV->Option AV
 | [.str s,.str p]=>some (.bool (fU p s))
 | _=>none
def Kx:List AV->Option AV
 | [.str s,.str p]=>some (.str (bif fU p s then s.drop p.length else s))
 | _=>none
def Eo (i:Nat):List Nat->Bool
 | []=>false
 | j::r=>bif yt j i then true else Eo i r
def jO (set:List Nat):List Nat->List Nat
 | []=>[]
 | b::r=>bif Eo b set then jO set r else b::r
def DM:List Nat->Bool
 | []=>true
 | b::r=>yI b 128&&DM r
def trimS:List AV->Option AV
 | [.str s,.str set]=>bif DM set&&(yI s.length 4294967281&&yI set.length 4294967281) then some (.str (jO set (jO set s.reverse).reverse)) else none
 | _=>none
def gI (s:List Nat):Nat->List Nat
 | 0=>[]
 | n+1=>s++gI s n
def zN:List AV->Option AV
 | [.str s,.int .i64 (.ofNat n)]=>bif yB n 1099511627776&&yB (s.length*n) 1099511627776 then some (.str (gI s n)) else none
 | _=>none
def ma:Nat->Nat->List Nat->List Nat
 | 0,_,acc=>acc
 | f+1,n,acc=>bif yI n 10 then (48+n)::acc else ma f (n/10) ((48+n%10)::acc)
def ax (n:Nat):List Nat:=ma (n+1) n []
def aW:Int->List Nat
 | .ofNat n=>ax n
 | .negSucc n=>45::ax (n+1)
def Ac:Int->Bool
 | .ofNat n=>yI n 9223372036854775808
 | .negSucc n=>yI n 9223372036854775808
def HY:List AV->Option AV
 | [.int .i64 n]=>bif Ac n then some (.str (aW n)) else none
 | _=>none
def zu:List AV->Option AV
 | [.int .u64 (.ofNat n),.int .i64 10]=>bif yI n 18446744073709551616 then some (.str (ax n)) else none
 | _=>none
def cN:List Nat->Nat->Option Nat
 | [],a=>some a
 | b::r,a=>bif yB 48 b&&yB b 57 then cN r (10*a+(b-48)) else none
def HZ:List AV->Option AV
 | [.str s]=>
  bif yI 0 s.length&&yB s.length 18 then
   match cN s 0 with | some n=>some (.aq [.int .i64 n,.undef]) | none=>none
  else none
 | _=>none
def mF:List AV->Option AV
 | [.int .u64 (.ofNat x),.int .u64 (.ofNat y),.int .u64 (.ofNat c)]=>
  bif yB c 1&&(yI x 18446744073709551616&&yI y 18446744073709551616) then some (.aq [.int .u64 ((x+y+c)%18446744073709551616:Nat),.int .u64 ((x+y+c)/18446744073709551616:Nat)]) else none
 | _=>none
def zR:List AV->Option AV
 | [.int .u64 (.ofNat x),.int .u64 (.ofNat y),.int .u64 (.ofNat c)]=>
  bif yB c 1&&(yI x 18446744073709551616&&yI y 18446744073709551616) then some (.aq [.int .u64 ((x+18446744073709551616*2-y-c)%18446744073709551616:Nat),.int .u64 (bif yB (y+c) x then 0 else 1)]) else none
 | _=>none
def pR:List AV->Option AV
 | [.int .u64 (.ofNat x),.int .u64 (.ofNat y)]=>bif yI x 18446744073709551616&&yI y 18446744073709551616 then some (.aq [.int .u64 (x*y/18446744073709551616:Nat),.int .u64 (x*y%18446744073709551616:Nat)]) else none
 | _=>none
def er:Nat->Nat->Nat
 | 0,_=>0
 | f+1,n=>bif yt n 0 then 0 else 1+er f (n/2)
def Hl:List AV->Option AV
 | [.int .u64 (.ofNat x)]=>bif yI x 18446744073709551616 then some (.int .i64 (er 64 x)) else none
 | _=>none
def Ec:List AV->Option AV
 | [.int .u64 (.ofNat x)]=>bif yI x 18446744073709551616 then some (.int .i64 (64-er 64 x:Nat)) else none
 | _=>none
end
section
open Go
section
variable {O:bq} {n:Nat}
def GF {w w':yg} (h:RowKit.Below w.heap.size w w'):Calm w w':=⟨h.os,h.tape,h.output,h.size,h.block⟩
def aif {w:yg} (k:Nat):Calm w (w.drewN k):=⟨rfl,rfl,rfl,yv _,fun _ _=>rfl⟩
def aih {w:yg} (h:z8 O w) {a:Addr} {v:ye} (hc:O.w0.cell? a=some v):w.cell? a=some v:=by
 have hb:a.block<O.w0.heap.size:=by
  unfold World.cell? at hc
  cases hq:O.w0.heap[a.block]? with
  | none=>simp [hq] at hc
  | some o=>exact (xp.1 hq).1
 unfold World.cell? at hc ⊢;rw [h.1 _ hb];exact hc
def nF {ak:List AV} {r:AV} (hr:∀S w' lo u,ai O.ah eM S w' r u->mM O.ah S w' lo r u)
  (fy:∀args w,(callFunc (O.ah n) args).run O.P w= .ok (.enter (O.ah n) args) w)
  (h:∀w S args,z8 O w->ap O.ah eM S w ak args.toList->xK O.P (O.ah n) args w fun e w'=>∃u,e= .returned u/\Calm w w'/\∀S,ai O.ah eM S w' r u):ez O n ak r:=by
 intro w S args hg hS eD _;refine .inl ⟨fy args w,Go.callsIn_wide.2 ((h w S args hg eD).mono ?_)⟩;rintro e w' ⟨u,rfl,hc,hu⟩;exact ⟨u,S,rfl,hc,fun _ h=>h,fun _ h=> .inl h,fun b hb=>yN (hS b hb) hc.size,hr S w' _ u (hu S)⟩
def XI {ak:List AV} {r:AV} (hr:∀S w' lo u,ai O.ah eM S w' r u->mM O.ah S w' lo r u)
  (h:∀w S args,ap O.ah eM S w ak args.toList->∃u,(callFunc (O.ah n) args).run O.P w= .ok (.value u) w/\∀S,ai O.ah eM S w r u):ez O n ak r:=by
 intro w S args _ hS eD _;obtain ⟨u,h1,h2⟩:=h w S args eD;exact .inr ⟨u,w,h1,u,S,rfl,Calm.refl,fun _ h=>h,fun _ h=> .inl h,hS,hr S w _ u (h2 S)⟩
def Hc {s:List Nat}:∀S w' lo u,ai O.ah eM S w' (.str s) u->mM O.ah S w' lo (.str s) u:=fun S w' lo u h=>⟨[],rfl,h,rfl⟩
def Zl {k:IntKind} {z:Int}:∀S w' lo u,ai O.ah eM S w' (.int k z) u->mM O.ah S w' lo (.int k z) u:=fun S w' lo u h=>⟨[],rfl,h,rfl⟩
def aj7 {b:Bool}:∀S w' lo u,ai O.ah eM S w' (.bool b) u->mM O.ah S w' lo (.bool b) u:=fun S w' lo u h=>⟨[],rfl,h,rfl⟩
def WU {S:Nat->Prop} {w':yg} {lo:Nat}:∀{vs:List AV} {us:List ye},(∀v,v∈vs->(∀ex sz k cs,v≠.cp ex sz k cs)/\aX v=true)->ap O.ah eM S w' vs us->jW O.ah S w' lo vs us []
 | [],us,_,h=>by simp only [ap] at h;exact ⟨h,rfl⟩
 | v::vs,us,hv,h=>by
  simp only [ap] at h;obtain ⟨u,t,rfl,h1,h2⟩:=h;have h3:=hv v (by simp);refine ⟨u,t,[],[],rfl,rfl,?_,WU (fun v hm=>hv v (by simp [hm])) h2⟩;cases v<;>first | exact ⟨rfl,h1,h3.2⟩ | exact absurd rfl (h3.1 _ _ _ _)
def DE {vs:List AV} (hv:∀v,v∈vs->(∀ex sz k cs,v≠.cp ex sz k cs)/\aX v=true):∀S w' lo u,ai O.ah eM S w' (.aq vs) u->mM O.ah S w' lo (.aq vs) u:=by
 intro S w' lo u h;obtain ⟨xs,rfl,h⟩:=h;exact ⟨xs,[],rfl,WU hv h,by simp⟩
def L7 {S:Nat->Prop} {w:yg} {a:AV} {args:Array ye} (h:ap O.ah eM S w [a] args.toList):∃u,args=#[u]/\ai O.ah eM S w a u:=by
 simp only [ap] at h
 grind
def Ad {S:Nat->Prop} {w:yg} {a b:AV} {args:Array ye} (h:ap O.ah eM S w [a,b] args.toList):∃u v,args=#[u,v]/\ai O.ah eM S w a u/\ai O.ah eM S w b v:=by
 simp only [ap] at h
 grind
def abF {S:Nat->Prop} {w:yg} {a b c:AV} {args:Array ye} (h:ap O.ah eM S w [a,b,c] args.toList):∃u v x,args=#[u,v,x]/\ai O.ah eM S w a u/\ai O.ah eM S w b v/\ai O.ah eM S w c x:=by
 simp only [ap] at h
 grind
def GG {S:Nat->Prop} {w:yg} {s:List Nat} {l:List UInt8} (h:l.map y7=s):ai O.ah eM S w (.str s) (.string ⟨l.toArray⟩):=by
 simp only [ai];exact ⟨_,rfl,h⟩
def toNat_inj {a b:UInt8}:yt a.toNat b.toNat=(a==b):=by
 by_cases h:a=b
 ·simp_all
 ·have h':a.toNat≠b.toNat:=fun e=>h (UInt8.toNat_inj.1 e)
  have e:(a==b)=false:=by simp_all
  rw [e]
  cases hq:yt a.toNat b.toNat with
  | false=>rfl
  | true=>exact absurd (yk hq) h'
def GP:∀(p s:List UInt8),fU (p.map y7) (s.map y7)=p.isPrefixOf s
 | [],s=>by cases s<;>rfl
 | a::p,[]=>rfl
 | a::p,b::s=>by
  simp only [yS,fU,List.isPrefixOf,GP p s,toNat_inj]
def WV:∀(s sep:List UInt8) (k:Nat),ll (sep.map y7) (s.map y7) k=if 0<=Lib.index s sep then some (k+(Lib.index s sep).toNat) else none
 | [],sep,k=>by
  simp only [List.map_nil,ll,Lib.index]
  cases sep with
  | nil=>simp [fU]
  | cons a r=>simp [fU]
 | b::s,sep,k=>by
  have ih:=WV s sep (k+1);have hp:=GP sep (b::s);simp only [yS,ll,hp,Lib.index]
  grind
def Yo (b:UInt8):∀cs:List UInt8,Eo b.toNat (cs.map y7)=cs.contains b
 | []=>rfl
 | c::cs=>by
  simp only [yS,Eo,Yo b cs,List.contains_cons,toNat_inj]
  grind
def PC (cs:List UInt8):∀l:List UInt8,jO (cs.map y7) (l.map y7)=(l.dropWhile (cs.contains ·)).map y7
 | []=>rfl
 | b::l=>by
  simp only [yS,jO,Yo,List.dropWhile_cons,PC cs l]
  grind
def Yp (l:List UInt8):∀n,gI (l.map y7) n=(Lib.repeatL l n).map y7
 | 0=>rfl
 | n+1=>by simp only [gI,Lib.repeatL,xy,Yp l n]
def Wp:∀(f n:Nat) (acc:List Nat),n<f->ma f n acc=(Lib.decDigits n).map y7++acc
 | 0,n,acc,h=>by omega
 | f+1,n,acc,h=>by
  rw [ma,Lib.decDigits];by_cases hn:n<10
  ·rw [show yI n 10=true from yz hn,yy,dif_pos hn]
   have:(yaK (48+n)).toNat=48+n:=by
    rw [tF];omega
   grind
  ·have hb:yI n 10=false:=by
    cases hq:yI n 10 with
    | false=>rfl
    | true=>exact absurd (yr hq) (by omega)
   rw [hb,yM,dif_neg hn,Wp f (n/10) _ (by omega),xy,List.append_assoc]
   have:(yaK (48+n%10)).toNat=48+n%10:=by
    rw [tF];omega
   grind
def PZ (n:Nat):ax n=(Lib.decDigits n).map y7:=by
 rw [ax,Wp (n+1) n [] (by omega),List.append_nil]
def aj8 (n:Int):aW n=(Lib.itoa n).map y7:=by
 cases n with
 | ofNat k=>
  have:¬yai k<0:=by simp
  simp only [aW,Lib.itoa,this,y8,PZ];rfl
 | negSucc k=>
  have:Int.negSucc k<0:=Int.negSucc_lt_zero k
  simp only [aW,Lib.itoa,this,xh,PZ,yS];rfl
def P0:∀f x:Nat,er f x=Lib.bitLenAux f x
 | 0,_=>rfl
 | f+1,x=>by
  rw [er,Lib.bitLenAux];by_cases h:x=0
  ·simp_all
  ·have hb:yt x 0=false:=by
    cases hq:yt x 0 with
    | false=>rfl
    | true=>exact absurd (yk hq) h
   rw [hb,yM,yF h,P0 f]
def WW:∀{cs:List UInt8},DM (cs.map y7)=true->∀(j:Nat) b,cs[j]? =some b->b.toNat<128
 | [],_,j,b,h=>by simp at h
 | c::cs,h,j,b,hb=>by
  simp only [yS,DM,yf] at h
  cases j with
  | zero=>
   simp_all
  | succ j=>exact WW h.2 j b (by simpa using hb)
def nN {a b:Nat} (h:yI a b=true):a<b:=by simp_all
def Yq:∀{l:List UInt8} {a z:Nat},cN (l.map y7) a=some z->Lib.decFrom a l=some z
 | [],a,z,h=>h
 | b::l,a,z,h=>by
  simp only [yS,cN] at h
  cases hb:(yB 48 b.toNat&&yB b.toNat 57) with
  | false=>rw [hb] at h;cases h
  | true=>
   rw [hb] at h;simp only [yf] at hb;have h1:=yr hb.1;have h2:=yr hb.2
   have:=Yq h
   rw [Lib.decFrom,Lib.digitVal,yL ⟨h1,h2⟩]
   grind
def aj9 {l:List UInt8} {z:Nat} (h:cN (l.map y7) 0=some z) (h0:0<l.length):Lib.atoi l=some (z:Int):=by
 cases l with
 | nil=>simp at h0
 | cons b r=>
  have hd:=Yq h;have hb:48<=b.toNat:=by
   simp only [yS,cN] at h
   cases hb:(yB 48 b.toNat&&yB b.toNat 57) with
   | false=>rw [hb] at h;cases h
   | true=>
    simp_all
  have h1:(b==45)=false:=by
   have:b≠45:=fun e=>by subst e;exact absurd hb (by decide)
   grind
  have h2:(b==43)=false:=by
   have:b≠43:=fun e=>by subst e;exact absurd hb (by decide)
   grind
  simp only [Lib.atoi,h1,h2,yC,y8,Lib.decNat,List.isEmpty_cons,hd,Option.map_some]
section
variable {f:tp}
def agb (hf:O.ah n=f) (fy:∀args w,(callFunc f args).run O.P w= .ok (.enter f args) w)
  (hc:∀(s p:ByteArray) (w:yg),xK O.P f #[.string s,.string p] w fun e w'=>e= .returned (.tuple #[.string ⟨(Lib.trimPrefix s.data.toList p.data.toList).toArray⟩,.bool (Lib.hasPrefix s.data.toList p.data.toList)])/\w'=w):
  ∀ak r,KH ak=some r->ez O n ak r:=by
 intro ak r h;unfold KH at h
 split at h
 ·rename_i s p;simp only [yc] at h;subst h;refine nF ?_ (by rw [hf];exact fy) ?_
  ·cases fU p s<;>exact DE (by simp [aX])
  ·intro w S args hg eD;obtain ⟨u,v,rfl,h1,h2⟩:=Ad eD;obtain ⟨t1,rfl,rfl⟩:=h1;obtain ⟨t2,rfl,rfl⟩:=h2;rw [hf];refine (hc t1 t2 w).mono ?_;rintro e w' ⟨rfl,rfl⟩;refine ⟨_,rfl,Calm.refl,fun S=>?_⟩;rw [GP,yY];unfold Lib.trimPrefix Lib.hasPrefix
   cases hp:t2.data.toList.isPrefixOf t1.data.toList with
   | true=>
    simp only [yy,xh,ai,ap]
    simp_all
   | false=>
    simp only [yM,yC,y8,ai,ap]
    grind
 ·cases h
def agc (hf:O.ah n=f) (fy:∀args w,(callFunc f args).run O.P w= .ok (.enter f args) w)
  (hc:∀(s p:ByteArray) (w:yg),xK O.P f #[.string s,.string p] w fun e w'=>e= .returned (.bool (Lib.hasPrefix s.data.toList p.data.toList))/\w'=w):
  ∀ak r,KI ak=some r->ez O n ak r:=by
 intro ak r h;unfold KI at h
 split at h
 ·rename_i s p;simp only [yc] at h;subst h;refine nF aj7 (by rw [hf];exact fy) ?_
  intro w S args hg eD;obtain ⟨u,v,rfl,h1,h2⟩:=Ad eD;obtain ⟨t1,rfl,rfl⟩:=h1;obtain ⟨t2,rfl,rfl⟩:=h2;rw [hf];refine (hc t1 t2 w).mono ?_;rintro e w' ⟨rfl,rfl⟩;refine ⟨_,rfl,Calm.refl,fun S=>?_⟩;rw [GP];simp only [ai,Lib.hasPrefix]
 ·cases h
def af7 (hf:O.ah n=f) (fy:∀args w,(callFunc f args).run O.P w= .ok (.enter f args) w)
  (hc:∀(s p:ByteArray) (w:yg),xK O.P f #[.string s,.string p] w fun e w'=>e= .returned (.string ⟨(Lib.trimPrefix s.data.toList p.data.toList).toArray⟩)/\w'=w):
  ∀ak r,Kx ak=some r->ez O n ak r:=by
 intro ak r h;unfold Kx at h
 split at h
 ·rename_i s p;simp only [yc] at h;subst h;refine nF Hc (by rw [hf];exact fy) ?_
  intro w S args hg eD;obtain ⟨u,v,rfl,h1,h2⟩:=Ad eD;obtain ⟨t1,rfl,rfl⟩:=h1;obtain ⟨t2,rfl,rfl⟩:=h2;rw [hf];refine (hc t1 t2 w).mono ?_;rintro e w' ⟨rfl,rfl⟩;refine ⟨_,rfl,Calm.refl,fun S=>?_⟩;rw [GP,yY];refine GG ?_;unfold Lib.trimPrefix Lib.hasPrefix
  cases hp:t2.data.toList.isPrefixOf t1.data.toList with
  | true=>simp [List.map_drop]
  | false=>simp
 ·cases h
def ama (hf:O.ah n=f) (fy:∀args w,(callFunc f args).run O.P w= .ok (.enter f args) w) {a:Addr} {m:Int} (hm:O.w0.cell? a=some (.int .i64 m))
  (hc:∀(s sep:ByteArray) (w:yg),s.size<4294967281->w.cell? a=some (.int .i64 m)->xK O.P f #[.string s,.string sep] w fun e w'=>e= .returned (.tuple #[.string ⟨(Lib.cut s.data.toList sep.data.toList).1.toArray⟩,.string ⟨(Lib.cut s.data.toList sep.data.toList).2.1.toArray⟩,.bool (Lib.cut s.data.toList sep.data.toList).2.2])/\∃n,w'=w.drewN n):
  ∀ak r,MA ak=some r->ez O n ak r:=by
 intro ak r h;unfold MA at h
 split at h
 ·rename_i s sep
  cases hb:yI s.length 4294967281 with
  | false=>rw [hb] at h;cases h
  | true=>
   rw [hb] at h;have key:∀(q:List UInt8×List UInt8×Bool),(∀t1 t2:ByteArray,t1.data.toList.map y7=s->t2.data.toList.map y7=sep->r= .aq [.str ((Lib.cut t1.data.toList t2.data.toList).1.map y7),.str ((Lib.cut t1.data.toList t2.data.toList).2.1.map y7),.bool (Lib.cut t1.data.toList t2.data.toList).2.2])->
     (∃a b c,r= .aq [.str a,.str b,.bool c])->ez O n [.str s,.str sep] r:=by
    intro q hq aos;obtain ⟨a',b',c',rfl⟩:=aos;refine nF (DE (by simp [aX])) (by rw [hf];exact fy) ?_
    intro w S args hg eD;obtain ⟨u,v,rfl,h1,h2⟩:=Ad eD;obtain ⟨t1,rfl,e1⟩:=h1;obtain ⟨t2,rfl,e2⟩:=h2;rw [hf];have hl:t1.size<4294967281:=by
     have:=nN hb
     rw [<-e1,yY] at this
     simp_all
    refine (hc t1 t2 w hl (aih hg hm)).mono ?_;rintro e w' ⟨rfl,k,rfl⟩;refine ⟨_,rfl,aif k,fun S=>?_⟩;simp only [ai,ap]
    grind
   refine key ([],[],false) ?_ ?_
   ·intro t1 t2 e1 e2;subst e1;subst e2;rw [WV] at h;unfold Lib.cut;by_cases h0:0<=Lib.index t1.data.toList t2.data.toList
    ·simp_all
    ·grind
   ·grind
 ·cases h
def aka (hf:O.ah n=f) (fy:∀args w,(callFunc f args).run O.P w= .ok (.enter f args) w)
  (hc:∀(s cs:ByteArray) (w:yg),s.size<=9223372036854775807->cs.size<4294967281->(∀(j:Nat) b,cs.data.toList[j]? =some b->b.toNat<128)->xK O.P f #[.string s,.string cs] w fun e w'=>e= .returned (.string ⟨(Lib.trimS s.data.toList cs.data.toList).toArray⟩)/\RowKit.Below w.heap.size w w'):
  ∀ak r,trimS ak=some r->ez O n ak r:=by
 intro ak r h;unfold trimS at h
 split at h
 ·rename_i s cs
  cases hb:(DM cs&&(yI s.length 4294967281&&yI cs.length 4294967281)) with
  | false=>rw [hb] at h;cases h
  | true=>
   rw [hb] at h;simp only [yy,yc] at h;subst h;simp only [yf] at hb;refine nF Hc (by rw [hf];exact fy) ?_
   intro w S args hg eD;obtain ⟨u,v,rfl,h1,h2⟩:=Ad eD;obtain ⟨t1,rfl,rfl⟩:=h1;obtain ⟨t2,rfl,rfl⟩:=h2;have mq:=nN hb.2.1;have mY:=nN hb.2.2;rw [yY] at mq mY;rw [hf];refine (hc t1 t2 w (by rw [Lib.size_eq];omega) (by rw [Lib.size_eq];omega) (WW hb.1)).mono ?_;rintro e w' ⟨rfl,hw⟩;refine ⟨_,rfl,GF hw,fun S=>GG ?_⟩;simp only [Lib.trimS,Lib.trimLeftS,Lib.trimRightS];rw [<-uV,PC,<-uV,PC]
 ·cases h
def ag6 (hf:O.ah n=f) (fy:∀args w,(callFunc f args).run O.P w= .ok (.enter f args) w)
  (hc:∀(s:ByteArray) (c:Nat) (w:yg),c<=9223372036854775807->s.size*c<=140737488355328->xK O.P f #[.string s,.int .i64 c] w fun e w'=>e= .returned (.string ⟨(Lib.repeatL s.data.toList c).toArray⟩)/\RowKit.Below w.heap.size w w'):
  ∀ak r,zN ak=some r->ez O n ak r:=by
 intro ak r h;unfold zN at h
 split at h
 ·rename_i s c
  cases hb:(yB c 1099511627776&&yB (s.length*c) 1099511627776) with
  | false=>rw [hb] at h;cases h
  | true=>
   rw [hb] at h;simp only [yy,yc] at h;subst h;simp only [yf] at hb;have l1:=yr hb.1;have l2:=yr hb.2;refine nF Hc (by rw [hf];exact fy) ?_
   intro w S args hg eD;obtain ⟨u,v,rfl,h1,h2⟩:=Ad eD;obtain ⟨t1,rfl,rfl⟩:=h1;subst h2;rw [hf];rw [yY] at l2;refine (hc t1 c w (by omega) (by rw [Lib.size_eq];omega)).mono ?_;rintro e w' ⟨rfl,hw⟩;exact ⟨_,rfl,GF hw,fun S=>GG (Yp _ _).symm⟩
 ·cases h
def akb (hf:O.ah n=f) (fy:∀args w,(callFunc f args).run O.P w= .ok (.enter f args) w)
  (hc:∀(z:Int) (w:yg),-9223372036854775808<=z->z<=9223372036854775807->z8 O w->xK O.P f #[.int .i64 z] w fun e w'=>e= .returned (.string ⟨(Lib.itoa z).toArray⟩)/\Calm w w'):
  ∀ak r,HY ak=some r->ez O n ak r:=by
 intro ak r h;unfold HY at h
 split at h
 ·rename_i z
  cases hb:Ac z with
  | false=>rw [hb] at h;cases h
  | true=>
   rw [hb] at h;simp only [yy,yc] at h;subst h;have hz: -9223372036854775808<=z/\z<=9223372036854775807:=by
    cases z with
    | ofNat k=>have:=nN hb;show -9223372036854775808<=(k:Int)/\(k:Int)<=9223372036854775807;omega
    | negSucc k=>have:=nN hb;omega
   refine nF Hc (by rw [hf];exact fy) ?_
   intro w S args hg eD;obtain ⟨u,rfl,h1⟩:=L7 eD;subst h1;rw [hf];refine (hc z w hz.1 hz.2 hg).mono ?_;rintro e w' ⟨rfl,hw⟩;exact ⟨_,rfl,hw,fun S=>GG (aj8 z).symm⟩
 ·cases h
def af8 (hf:O.ah n=f) (fy:∀args w,(callFunc f args).run O.P w= .ok (.enter f args) w)
  (hc:∀(z:Nat) (w:yg),z<18446744073709551616->z8 O w->xK O.P f #[.int .u64 z,.int .i64 10] w fun e w'=>e= .returned (.string ⟨(Lib.decDigits z).toArray⟩)/\Calm w w'):
  ∀ak r,zu ak=some r->ez O n ak r:=by
 intro ak r h;unfold zu at h
 split at h
 ·rename_i z
  cases hb:yI z 18446744073709551616 with
  | false=>rw [hb] at h;cases h
  | true=>
   rw [hb] at h;simp only [yy,yc] at h;subst h;refine nF Hc (by rw [hf];exact fy) ?_
   intro w S args hg eD;obtain ⟨u,v,rfl,h1,h2⟩:=Ad eD;subst h1;subst h2;rw [hf];refine (hc z w (nN hb) hg).mono ?_;rintro e w' ⟨rfl,hw⟩;exact ⟨_,rfl,hw,fun S=>GG (PZ z).symm⟩
 ·cases h
def akc (hf:O.ah n=f) (fy:∀args w,(callFunc f args).run O.P w= .ok (.enter f args) w)
  (hc:∀(s:ByteArray) (z:Int) (w:yg),s.size<=18->Lib.atoi s.data.toList=some z->xK O.P f #[.string s] w fun e w'=>e= .returned (.tuple #[.int .i64 z,.nilIface])/\Calm w w'):
  ∀ak r,HZ ak=some r->ez O n ak r:=by
 intro ak r h;unfold HZ at h
 split at h
 ·rename_i s
  cases hb:(yI 0 s.length&&yB s.length 18) with
  | false=>rw [hb] at h;cases h
  | true=>
   rw [hb] at h;simp only [yy] at h;simp only [yf] at hb;have l1:=nN hb.1;have l2:=yr hb.2
   split at h
   ·rename_i z hz;simp only [yc] at h;subst h;refine nF (DE (by simp [aX])) (by rw [hf];exact fy) ?_
    intro w S args hg eD;obtain ⟨u,rfl,h1⟩:=L7 eD;obtain ⟨t1,rfl,rfl⟩:=h1;rw [yY] at l1 l2;have ha:Lib.atoi t1.data.toList=some (z:Int):=aj9 hz l1;rw [hf];refine (hc t1 z w (by rw [Lib.size_eq];exact l2) ha).mono ?_
    simp only [ai,ap]
    grind
   ·cases h
 ·cases h
def aii (hf:O.ah n=f) (fy:∀args w,(callFunc f args).run O.P w= .ok (.enter f args) w)
  (hc:∀(x y:Nat) (w:yg),x<18446744073709551616->y<18446744073709551616->xK O.P f #[.int .u64 x,.int .u64 y] w fun e w'=>e= .returned (.tuple #[.int .u64 ((x*y/18446744073709551616:Nat):Int),.int .u64 ((x*y%18446744073709551616:Nat):Int)])/\w'=w):
  ∀ak r,pR ak=some r->ez O n ak r:=by
 intro ak r h;unfold pR at h
 split at h
 ·rename_i x y
  cases hb:(yI x 18446744073709551616&&yI y 18446744073709551616) with
  | false=>rw [hb] at h;cases h
  | true=>
   rw [hb] at h;simp only [yy,yc] at h;subst h;simp only [yf] at hb;refine nF (DE (by simp [aX])) (by rw [hf];exact fy) ?_
   intro w S args hg eD;obtain ⟨u,v,rfl,h1,h2⟩:=Ad eD;subst h1;subst h2;rw [hf];refine (hc x y w (nN hb.1) (nN hb.2)).mono ?_;rintro e w' ⟨rfl,rfl⟩;refine ⟨_,rfl,Calm.refl,fun S=>?_⟩;simp only [ai,ap]
   grind
 ·cases h
def aij (hf:O.ah n=f) (fy:∀args w,(callFunc f args).run O.P w= .ok (.enter f args) w)
  (hc:∀(x:Int) (w:yg),0<=x->x<=18446744073709551615->xK O.P f #[.int .u64 x] w fun e w'=>e= .returned (.int .i64 (Lib.bitLen x.toNat:Nat))/\w'=w):
  ∀ak r,Hl ak=some r->ez O n ak r:=by
 intro ak r h;unfold Hl at h
 split at h
 ·rename_i x
  cases hb:yI x 18446744073709551616 with
  | false=>rw [hb] at h;cases h
  | true=>
   rw [hb] at h;simp only [yy,yc] at h;subst h
   have:=nN hb
   refine nF Zl (by rw [hf];exact fy) ?_
   intro w S args hg eD;obtain ⟨u,rfl,h1⟩:=L7 eD;subst h1;rw [hf];refine (hc (yai x) w (uR x) (by show (x:Int)<=_;omega)).mono ?_;rintro e w' ⟨rfl,rfl⟩;refine ⟨_,rfl,Calm.refl,fun S=>?_⟩;rw [P0];rfl
 ·cases h
def akd (hf:O.ah n=f) (fy:∀args w,(callFunc f args).run O.P w= .ok (.enter f args) w)
  (hc:∀(x:Int) (w:yg),0<=x->x<=18446744073709551615->xK O.P f #[.int .u64 x] w fun e w'=>e= .returned (.int .i64 (64-(Lib.bitLen x.toNat:Nat)))/\w'=w):
  ∀ak r,Ec ak=some r->ez O n ak r:=by
 intro ak r h;unfold Ec at h
 split at h
 ·rename_i x
  cases hb:yI x 18446744073709551616 with
  | false=>rw [hb] at h;cases h
  | true=>
   rw [hb] at h;simp only [yy,yc] at h;subst h
   have:=nN hb
   have hle:∀f x,Lib.bitLenAux f x<=f:=by
    intro f
    induction f with
    | zero=>intro x;exact yv _
    | succ f ih=>
     intro x;rw [Lib.bitLenAux]
     grind
   refine nF Zl (by rw [hf];exact fy) ?_
   intro w S args hg eD;obtain ⟨u,rfl,h1⟩:=L7 eD;subst h1;rw [hf];refine (hc (yai x) w (uR x) (by show (x:Int)<=_;omega)).mono ?_;rintro e w' ⟨rfl,rfl⟩;refine ⟨_,rfl,Calm.refl,fun S=>?_⟩;simp only [ai,P0];show Value.int .i64 (64-(Lib.bitLenAux 64 x:Int))=Value.int .i64 ((64-Lib.bitLenAux 64 x:Nat):Int)
   grind
 ·cases h
def aik (hf:O.ah n=f)
  (hc:∀(x y c:Nat) (w:yg),c<=1->(callFunc f #[.int .u64 x,.int .u64 y,.int .u64 c]).run O.P w= .ok (.value (.tuple #[.int .u64 (((x+y+c)%18446744073709551616:Nat):Int),.int .u64 (((x+y+c)/18446744073709551616:Nat):Int)])) w):
  ∀ak r,mF ak=some r->ez O n ak r:=by
 intro ak r h;unfold mF at h
 split at h
 ·rename_i x y c
  cases hb:(yB c 1&&(yI x 18446744073709551616&&yI y 18446744073709551616)) with
  | false=>rw [hb] at h;cases h
  | true=>
   rw [hb] at h;simp only [yy,yc] at h;subst h;simp only [yf] at hb;refine XI (DE (by simp [aX])) ?_;intro w S args eD;obtain ⟨u,v,z,rfl,h1,h2,h3⟩:=abF eD;subst h1;subst h2;subst h3;rw [hf];refine ⟨_,hc x y c w (yr hb.1),fun S=>?_⟩;simp only [ai,ap]
   grind
 ·cases h
def ail (hf:O.ah n=f)
  (hc:∀(x y b:Nat) (w:yg),b<=1->(callFunc f #[.int .u64 x,.int .u64 y,.int .u64 b]).run O.P w= .ok (.value (.tuple #[.int .u64 (((x+18446744073709551616-y-b)%18446744073709551616:Nat):Int),.int .u64 ((if x<y+b then 1 else 0:Nat):Int)])) w):
  ∀ak r,zR ak=some r->ez O n ak r:=by
 intro ak r h;unfold zR at h
 split at h
 ·rename_i x y c
  cases hb:(yB c 1&&(yI x 18446744073709551616&&yI y 18446744073709551616)) with
  | false=>rw [hb] at h;cases h
  | true=>
   rw [hb] at h;simp only [yy,yc] at h;subst h;simp only [yf] at hb;have dU:=yr hb.1;have hy:=nN hb.2.2;refine XI (DE (by simp [aX])) ?_;intro w S args eD;obtain ⟨u,v,z,rfl,h1,h2,h3⟩:=abF eD;subst h1;subst h2;subst h3;rw [hf];refine ⟨_,hc x y c w dU,fun S=>?_⟩;simp only [ai,ap];refine ⟨_,rfl,_,_,rfl,?_,_,_,rfl,?_,rfl⟩
   ·grind
   ·congr 1
    by_cases h:x<y+c
    ·have:yB (y+c) x=false:=by
      cases hq:yB (y+c) x with
      | false=>rfl
      | true=>have:=yr hq;omega
     grind
    ·rw [yz (by omega),yF h];rfl
 ·cases h
end
end
end
end VE
