import Derived.Lib.Index
import Derived.Lib.ItoaNum
import Derived.Lib.Atoi
import Derived.Lib.BitFns
import Derived.Lib.Repeat
import Derived.Lib.SlTrimSet
import Derived.Shelf.Strings.Cut
import Derived.Shelf.Strings.Prefix
import Derived.Shelf.Small.Bits
import Derived.RowKit
import Derived.Test.YtfohkkaphnfgoaaGreatDoorTad
import Derived.Test.YtfohkkaphnfgoaaGreatDoorTaa
set_option linter.all false
set_option maxRecDepth 100000
open Array renaming getElem?_eq_some_iff→xv,replicate→ux
open Bool renaming and_eq_true→ye,false_eq_true→yF
open Go renaming Calls→xR,Code→wQ,Func→tv,FuncId→tF,LeavesInM→ybB,Loop→uG,Program→xi,ResultVar→yby,Value→yf,World→yj
open Int renaming natCast_nonneg→ta,ofNat→yas
open List renaming length_map→yL,mapM_cons→vQ,map_append→xq,map_cons→yV,map_reverse→th
open Nat renaming beq→yv,ble→yE,ble_eq_true_of_le→yx,blt→yM,eq_of_beq_eq_true→yo,le_of_ble_eq_true→yu,le_refl→yr,le_trans→xn,lt_of_lt_of_le→yP
open Option.some renaming injEq→yc
open Prod.mk renaming injEq→yq
open UInt8 renaming ofNat→yaT,toNat→y9,toNat_ofNat'→tP
namespace VE
section
open Go
section
variable {O:bt} {m:Mp} {S:Nat->Prop} {w:yj} {hp:Hp} {ct:Nat}
def YS (hh:aX O m S w hp ct) {g:Nat} {w':yj} (hw:One w w' g) (hg:¬S g) (ho:¬ek m hp g) (bj:O.w0.heap.size<=g):aX O m S w' hp ct:=by
 have aP:fX S w w':=fun b hb=>hw.other b (fun e=>hg (e▸hb))
 refine ⟨fun id o p h1 h2=>?_,hh.lt,hh.inj,fun b hb=>by rw [hw.size];exact hh.slt b hb,fun id p h=>by rw [hw.size];exact hh.blt id p h,hh.low,fun b hb=>?_,by rw [hw.size];exact hh.fY,hh.a7⟩
 ·exact rR (fun _ _ h=>h) (fun _ h=>h) aP (fun q hq=>hw.other _ (fun e=>ho ⟨id,o,q,h1,hq,e⟩)) (fun _ _ h=>h) (hh.obj id o p h1 h2)
 ·rw [hw.other b (by omega)];exact hh.iH b hb
def YT {P:xi} {b:Nat} {o:Go.Obj} (h:w.heap[b]? =some o) (hc:∀c t f,o≠.cells c t f):(getObj b).run P w= .ok o w:=by
 simp only [getObj,Sem.run,h]
def MH {P:xi} {b:Nat} {o x:Go.Obj} (h:w.heap[b]? =some o) (hc:∀c t f,o≠.cells c t f):(setObj b x).run P w= .ok () {w with heap:=w.heap.setIfInBounds b x}:=by
 simp only [setObj,Sem.run,h]
def It {P:xi} {b:Nat} {r:uG} (h:w.heap[b]? =some (.loop r)):(Instr.getLoop b).run P w= .ok r w:=by
 simp only [Instr.getLoop,Sem.run_bind,YT (P:=P) h (fun _ _ _=>by simp),Result.andThen_ok,Sem.run_pure]
def I1 (hh:aX O m S w hp ct) {l:Nat} {tm:Env} {ps:List Nat} {cK body:VC} {st:Nat} {pe:z7} {p:Pl} (hg:az hp l=some (.lp tm ps cK body st pe)) (hm:m l=some p):
  ∃(r:uG) (h:Nat),w.heap[p.b]? =some (.loop r)/\¬S p.b/\r.state=BD st/\st<=2/\r.pending=zM pe/\cd O m S w tm r.tmps/\r.params.toList=ps/\B2 O.P (O.hint h) cK r.assign/\B2 O.P (O.hint h) body r.body/\
   (O.hint h).n<=r.tmps.size/\zS (O.hint h).n ps=true:=by
 obtain ⟨q,r,h,g1,g2,g3⟩:=hh.obj l _ p hg hm
 grind
def ZC (hh:aX O m S w hp ct) {l:Nat} {tm:Env} {ps:List Nat} {cK body:VC} {st:Nat} {pe:z7} {p:Pl} (hg:az hp l=some (.lp tm ps cK body st pe)) (hm:m l=some p) {r:uG} (hr:w.heap[p.b]? =some (.loop r))
  {st':Nat} {pe':z7} (h2:st'<=2):
  aX O m S {w with heap:=w.heap.setIfInBounds p.b (.loop {r with state:=BD st',pending:=zM pe'})} (bg hp l (.lp tm ps cK body st' pe')) ct/\
  ck m S w hp m S {w with heap:=w.heap.setIfInBounds p.b (.loop {r with state:=BD st',pending:=zM pe'})} (bg hp l (.lp tm ps cK body st' pe')) ct:=by
 obtain ⟨r',h,g1,g2,g3,g4,g5,g6,g7,g8,g9,g10,g11⟩:=I1 hh hg hm;rw [hr] at g1;injection g1 with g1
 injection g1 with g1
 subst g1;have fO:=ET w p.b (.loop {r with state:=BD st',pending:=zM pe'})
 refine IP hh hg hm g2 fO ⟨p,{r with state:=BD st',pending:=zM pe'},h,hm,MD hr,g2,rfl,h2,rfl,?_,g7,g8,g9,g10,g11⟩ (fun _ _=>⟨_,MD hr⟩);exact AY (fun _ _ h=>h) (fun _ h=>h) (fun b hb=>fO.other b (fun e=>g2 (e▸hb))) g6
def ZD {n:Nat}:∀{ps:List Nat} {vs:List AV} {us:List yf} {tm cu:Env} {tmps:Array yf},rY tm ps vs=some cu->av O.ai m S w vs us->cd O m S w tm tmps->n<=tmps.size->zS n ps=true->
  ps.length=us.length/\cd O m S w cu ((ps.zip us).foldl (fun t (x:Nat×yf)=>t.setIfInBounds x.1 x.2) tmps)/\((ps.zip us).foldl (fun t (x:Nat×yf)=>t.setIfInBounds x.1 x.2) tmps).size=tmps.size
 | [],[],us,tm,cu,tmps,h,hr,ht,hn,ha=>by
  simp only [rY,yc] at h;simp only [av] at hr
  simp_all
 | [],_::_,us,tm,cu,tmps,h,hr,ht,hn,ha=>by simp [rY] at h
 | _::_,[],us,tm,cu,tmps,h,hr,ht,hn,ha=>by simp [rY] at h
 | p::ps,v::vs,us,tm,cu,tmps,h,hr,ht,hn,ha=>by
  simp only [rY] at h;obtain ⟨u,t,rfl,h1,h2⟩:=hr;simp only [zS,ye] at ha;have hp:=zI.1 ha.1;have ht1:cd O m S w ((p,v)::tm) (tmps.setIfInBounds p u):=Sn (a:=⟨tmps,[]⟩) (d:=some p) ht (fun i hi=>by injection hi with hi;show i<tmps.size;omega) h1
  obtain ⟨g1,g2,g3⟩:=ZD (n:=n) h h2 ht1 (by simpa using hn) ha.2
  simp_all
def amf (ps:Array Tmp) (args:Array yf) (tmps:Array yf):(ps.zip args).foldl (fun tmps (x:Tmp×yf)=>tmps.setIfInBounds x.1 x.2) tmps=(ps.toList.zip args.toList).foldl (fun t (x:Nat×yf)=>t.setIfInBounds x.1 x.2) tmps:=by
 rw [<-Array.foldl_toList,Array.toList_zip]
def aiy {P:xi} {b:Nat} {r:uG} (h:w.heap[b]? =some (.loop r)) (jump:Option wQ):
  (Instr.endRound b jump).run P w= .ok (.bool jump.isNone) {w with heap:=w.heap.setIfInBounds b (.loop {r with state:=if jump.isNone then .ready else .done,pending:=jump})}:=by
 simp only [Instr.endRound,Sem.run_bind,It h,Result.andThen_ok,MH (P:=P) h (fun _ _ _=>by simp),Sem.run_pure]
def ail {P:xi} {b:Nat} {r:uG} (h:w.heap[b]? =some (.loop r)) (hs:r.state= .ready):
  (Instr.beginRound b).run P w= .ok () {w with heap:=w.heap.setIfInBounds b (.loop {r with state:= .busy})}:=by
 simp only [Instr.beginRound,Sem.run_bind,It h,Result.andThen_ok,MH (P:=P) h (fun _ _ _=>by simp),hs,Sem.run_pure]
def amg {self:cD} (hS:∀v s ex s',self v s=some (ex,s')->∀c h l k,(comp O.P (O.hint h) c l k).1=v->Br O h c s ex s') {l:Nat} {xs:List AV} {v:AV} {ap:Hp} {bc:Nat}
  (hv:nX self hp ct l xs=some (v,ap,bc)):ab4 O hp ct l xs v ap bc:=by
 intro m S w args p hh hm ib;unfold nX at hv
 split at hv
 case h_2=>cases hv
 rename_i tm ps cK body pe hg;obtain ⟨r,h,g1,g2,g3,g4,g5,g6,g7,⟨ca,ka,g8⟩,⟨cb,kb,g9⟩,g10,g11⟩:=I1 hh hg hm
 cases hb:rY tm ps xs with
 | none=>simp [hb] at hv
 | some cu=>
  simp only [hb] at hv;obtain ⟨b1,b2,b3⟩:=ZD hb ib g6 g10 g11;rw [<-g7] at b1 b2 b3;have eV:args.size=r.params.size:=by
   grind
  let tmps:Array yf:=(r.params.zip args).foldl (fun tmps (x:Tmp×yf)=>tmps.setIfInBounds x.1 x.2) r.tmps
  have afl:tmps=(r.params.toList.zip args.toList).foldl (fun t (x:Nat×yf)=>t.setIfInBounds x.1 x.2) r.tmps:=amf _ _ _;refine ⟨r.fn,tmps,r.assign,r.body,?_,?_⟩
  ·simp only [Instr.yield,Sem.run_bind,It g1,Result.andThen_ok,eV,yaS,ui,xh,Sem.run_pure];rfl
  refine roundIn_of_wpIn (F:=Fence.wide) trivial ?_
  cases h1:self cK ⟨cu,hp,ct,ct⟩ with
  | none=>simp [h1] at hv
  | some q=>
   obtain ⟨ex1,s1⟩:=q
   cases ex1 with
   | ret=>simp [h1] at hv
   | exit id=>simp [h1] at hv
   | normal=>
    simp only [h1] at hv;have ez:=hS _ _ _ _ h1 r.assign h ca ka g8;have cZ:∀w',ck m S w hp m S w' hp ct->zN (some p.b) w':=fun w' hf=>MU hf (fun l hl=>⟨r,by injection hl with hl;subst hl;exact g1⟩)
    refine wpIn_mono (ez (some p.b) w.heap.size m S w ⟨tmps,[]⟩ (cZ w ck.refl) (by rw [afl];exact b2) hh (yr _) (by show _<=tmps.size;rw [afl,b3];exact g10) hh.fY (yr _) ⟨[],rfl,by simp,by simp⟩) ?_
    rintro e a1 w1 ⟨rfl,m1,S1,k1,k2,k3,k4,k5,k6,k7⟩;simp only [re,Exit.then];have Cb:m1 l=some p:=k5.old l p (hh.lt l p hm) hm
    split at hv
    case h_2=>cases hv
    rename_i jQ D6 D7 Ds Au iL;obtain ⟨r1,jk,f1,f2,f3,f4,f5,f6,f7,f8,f9,f10,f11⟩:=I1 k2 iL Cb;have Wu:=ail (P:=O.P) f1 f3;obtain ⟨q1,q2⟩:=ZC k2 iL Cb f1 (st':=1) (pe':=Au) (by omega)
    have cw:({r1 with state:=BD 1,pending:=zM Au}:uG)={r1 with state:= .busy}:=by rw [<-f5];rfl
    rw [cw] at q1 q2;refine ⟨_,Wu,?_⟩
    cases h2:self body ⟨s1.tm,bg s1.hp l (.lp jQ D6 D7 Ds 1 Au),s1.ct,s1.ct⟩ with
    | none=>simp [h2] at hv
    | some q=>
     obtain ⟨ex,s2⟩:=q;simp only [h2] at hv;have zd:=hS _ _ _ _ h2 r.body h cb kb g9
     have avb:zN (some p.b) {w1 with heap:=w1.heap.setIfInBounds p.b (.loop {r1 with state:= .busy})}:=fun l hl=>by
      grind
     have Wv:cd O m1 S1 {w1 with heap:=w1.heap.setIfInBounds p.b (.loop {r1 with state:= .busy})} s1.tm a1.tmps:=
      AY (fun _ _ h=>h) (fun _ h=>h) (fun b hb=>q2.still b hb) k1
     have avc:(O.hint h).n<=a1.tmps.size:=by
      grind
     refine wpIn_mono (zd (some p.b) w.heap.size m1 S1 _ a1 avb Wv q1 (yr _) avc hh.fY (xn k5.size q2.size) (AZ k2 q2 k7)) ?_;rintro e a2 w2 ⟨rfl,m2,S2,j1,j2,j3,j4,j5,j6,j7⟩;have hm2:m2 l=some p:=j5.old l p (k2.lt l p Cb) Cb
     split at hv
     case h_2=>cases hv
     rename_i sT K2 K3 JI pe2 GO;obtain ⟨r2,Lj,d1,d2,d3,d4,d5,d6,d7,d8,d9,d10,d11⟩:=I1 j2 GO hm2;have avd:ck m S w hp m2 S2 w2 s2.hp ct:=(k5.trans (q2.sD k4)).trans (j5.sD k4);have afm:ct<=s2.ct:=xn k4 j4;have fin:∀(jump:Option wQ) (st':Nat) (pe':z7),zM pe'=jump->BD st'=(if jump.isNone then .ready else .done)->st'<=2->
       ∃v' w',(Instr.endRound p.b jump).run O.P w2= .ok v' w'/\zB O m S w hp ct (.bool jump.isNone) (bg s2.hp l (.lp sT K2 K3 JI st' pe')) s2.ct (.returned v') w':=by
      intro jump st' pe' e1 e2 e3;obtain ⟨z1,z2⟩:=ZC j2 GO hm2 d1 (st':=st') (pe':=pe') e3;rw [e1,e2] at z1 z2;exact ⟨_,_,aiy d1 jump,_,m2,S2,rfl,z1,afm,by simp [aj],avd.trans (z2.sD afm)⟩
     cases ex with
     | normal=>
      simp only [yc,yq] at hv;obtain ⟨rfl,rfl,rfl⟩:=hv;simp only [re,roundPost];exact fin none 0 .none rfl rfl (by omega)
     | ret=>
      simp only [Tf,yc,yq] at hv;obtain ⟨rfl,rfl,rfl⟩:=hv;simp only [re,roundPost];exact fin (some .ret) 2 .ret rfl rfl (by omega)
     | exit id=>
      simp only [Tf,yc,yq] at hv;obtain ⟨rfl,rfl,rfl⟩:=hv;simp only [re,roundPost];exact fin (some (.exit id)) 2 (.exit id) rfl rfl (by omega)
end
end
section
open Go
section
variable {O:bt} {self:cD}
def Ng {P:xi} {f:tF} {fn:tv} {args:Array yf} {w:yj} (hf:P.funcs[f]? =some fn) (hb:fn.body.isSome=true) (hn:fn.name≠ "runtime.NumGoroutine"):(callFunc f args).run P w= .ok (.enter f args) w:=by
 have h1:fn.body≠none:=fun e=>by rw [e] at hb;cases hb
 simp [callFunc,program,Sem.run,hf,h1,hn]
def Rj {P:xi} {H:Hint} {fn:tv} {F:aD} (h:Fk P H fn=some F):∃c,fn.body=some c/\F.body=(comp P H c 0 0).1/\pk P fn.results.toList=some F.dw/\H.n<=fn.ntmps:=by
 unfold Fk at h
 split at h
 ·rename_i c rs h1 h2
  cases hb:yE H.n fn.ntmps with
  | false=>rw [hb] at h;cases h
  | true=>
   rw [hb] at h;simp only [yz,yc] at h;subst h
   simp_all
 ·cases h
def amh {m:Mp} {S:Nat->Prop} {w:yj} {hp:Hp} {ct:Nat} {tm:Env} {a:Act} {ro:Option Nat} (fn:tF) (ps:Array Tmp) (assign body:wQ) {cK b':VC} {h:Nat} (hh:aX O m S w hp ct) (ht:cd O m S w tm a.tmps) (cZ:zN ro w)
  (Ww:B2 O.P (O.hint h) cK assign) (Wx:B2 O.P (O.hint h) b' body) (hn:(O.hint h).n<=a.tmps.size) (eW:zS (O.hint h).n ps.toList=true) {lo:Nat} (fo:lo<=w.heap.size) (cM:Marks lo S w a.defers):
  ∃l mark w1,(Instr.enterLoop fn a.tmps ps assign body ro).run O.P w= .ok (l,mark) w1/\aX O (fI m ct ⟨l,0,0,0⟩) S w1 ((ct,.lp tm ps.toList cK b' 0 .none)::hp) (ct+1)/\
   ck m S w hp (fI m ct ⟨l,0,0,0⟩) S w1 ((ct,.lp tm ps.toList cK b' 0 .none)::hp) ct/\m ct=none/\Marks lo S w1 (mark++a.defers)/\w.heap.size<=l:=by
 have bN:m ct=none:=by
  cases hq:m ct with
  | none=>rfl
  | some p=>have:=hh.lt ct p hq;omega
 have lay:∀(w':yj) (d:Nat),Calm w w'->Marks lo S w' a.defers->
   aX O (fI m ct ⟨w'.heap.size,0,0,0⟩) S (w'.alloc (.loop {state:= .ready,pending:=none,fn:=fn,tmps:=a.tmps,params:=ps,assign:=assign,body:=body,defers:=d})) ((ct,.lp tm ps.toList cK b' 0 .none)::hp) (ct+1)/\
   ck m S w hp (fI m ct ⟨w'.heap.size,0,0,0⟩) S (w'.alloc (.loop {state:= .ready,pending:=none,fn:=fn,tmps:=a.tmps,params:=ps,assign:=assign,body:=body,defers:=d})) ((ct,.lp tm ps.toList cK b' 0 .none)::hp) ct:=by
  intro w' d hw afn;have jk:aX O m S w' hp ct:=EX hh hw (fun _ h=>h) (fun _ h=> .inl h) (fun b hb=>yP (hh.slt b hb) hw.size);have Ca:ck m S w hp m S w' hp ct:=CN hh hw (fun _ h=>h) (fun _ h=> .inl h);have hg:iP hp ct ((ct,.lp tm ps.toList cK b' 0 .none)::hp) (ct+1):=by
   refine ⟨fun id o ho=>⟨o,?_,jC.refl o⟩,by omega,fun id o ho=>?_,fun id o ho hi=>?_⟩
   ·rw [iB,yA (by have:=hh.a7 id o ho;omega)];exact ho
   ·rw [iB] at ho;by_cases hc:ct=id
    ·omega
    ·simp only [hc,xh] at ho;have:=hh.a7 id o ho;omega
   ·rw [iB,yA (by omega)] at ho;exact ⟨o,ho⟩
  have iM:∀i q,az ((ct,Obj.lp tm ps.toList cK b' 0 .none)::hp) i=some q->i≠ct->az hp i=some q:=fun i q h hi=>by
   rw [iB,yA (fun e=>hi e.symm)] at h;exact h
  have Lj:aX O m S w' ((ct,.lp tm ps.toList cK b' 0 .none)::hp) (ct+1):=by
   have fU:∀id p,m id=some p->id≠ct:=fun id p hm e=>by have:=hh.lt id p hm;omega
   exact ⟨fun id o p ho hm=>jk.obj id o p (iM id o ho (fU id p hm)) hm,fun id p hm=>by have:=hh.lt id p hm;omega,
    fun i j oi oj pi pj hi hj bN gK e=>jk.inj i j oi oj pi pj (iM i oi hi (fU i pi bN)) (iM j oj hj (fU j pj gK)) bN gK e,jk.slt,jk.blt,jk.low,jk.iH,jk.fY,hg.lt⟩
  have oI:fH O (fI m ct ⟨w'.heap.size,0,0,0⟩) S (w'.alloc (.loop {state:= .ready,pending:=none,fn:=fn,tmps:=a.tmps,params:=ps,assign:=assign,body:=body,defers:=d})) ct (.lp tm ps.toList cK b' 0 .none):=by
   refine ⟨⟨w'.heap.size,0,0,0⟩,_,h,eE,heap_alloc_new w' _,?_,rfl,by omega,rfl,?_,rfl,Ww,Wx,hn,eW⟩
   ·intro hS
    have:=jk.slt _ hS
    simp at this
   ·exact AY (kQ bN) (fun _ h=>h) (fun b hb=>(Iv jk _ b hb).trans (hw.same b (hh.slt b hb))) ht
  obtain ⟨S',k1,k2,k3⟩:=aab (i:=ct) (p:=⟨w'.heap.size,0,0,0⟩) Lj bN (by omega) rfl (fun o ho=>by
   rw [iB] at ho;simp only [xm,yc] at ho;subst ho
   exact .inl ⟨oI,by simp [ju]⟩)
  have k1':aX O (fI m ct ⟨w'.heap.size,0,0,0⟩) S (w'.alloc (.loop {state:= .ready,pending:=none,fn:=fn,tmps:=a.tmps,params:=ps,assign:=assign,body:=body,defers:=d})) ((ct,.lp tm ps.toList cK b' 0 .none)::hp) (ct+1):=by
   have K9:∀id q,m id=some q->q.b≠w'.heap.size:=fun id q hq=>by have:=jk.blt id q hq;omega
   refine ⟨?_,k1.lt,k1.inj,fun b hb=>k1.slt b (k2 b hb),k1.blt,k1.low,k1.iH,k1.fY,k1.a7⟩;intro id o q ho hm;by_cases hc:id=ct
   ·subst hc;rw [iB] at ho
    grind
   ·rw [eD hc] at hm;exact rR (kQ bN) (fun _ h=>h) (Iv jk _) (fun q' bK=>alloc_old (jk.blt id q' bK)) (fun _ _ h=>h) (jk.obj id o q (iM id o ho hc) hm)
  refine ⟨k1',Ca.trans ⟨rfl,rfl,rfl,by simp,fun b hb _=>alloc_old hb,fun _ h=>h,fun b hb=>Iv jk _ b hb,fun b hb=> .inl hb,?_,fun i q _ hq=>kQ bN i q hq,fun b r hb=>⟨r,(alloc_old (xv.1 hb).1).trans hb⟩⟩⟩;rintro b ⟨i,o,q,g1,g2,g3⟩;by_cases hc:i=ct
  ·subst hc;rw [eE] at g2
   grind
  ·rw [eD hc] at g2;exact .inl ⟨i,o,q,iM i o g1 hc,g2,g3⟩
 cases ro with
 | none=>
  have JL:Calm w (w.alloc (.deferred (some []))):=⟨rfl,rfl,rfl,by simp,fun b hb=>alloc_old hb⟩;obtain ⟨rs,r1,r2,r3⟩:=cM;have ave:Marks lo S (w.alloc (.deferred (some []))) a.defers:=⟨rs,r1,r2,fun r hr=>⟨(alloc_old (xv.1 (r3 r hr).1).1).trans (r3 r hr).1,(r3 r hr).2⟩⟩;obtain ⟨k1,k2⟩:=lay (w.alloc (.deferred (some []))) w.heap.size JL ave
  refine ⟨(w.alloc (.deferred (some []))).heap.size,[{target:= .collected w.heap.size,args:=#[]}],_,?_,k1,k2,bN,?_,by simp⟩
  ·simp [Instr.enterLoop,newObj,Sem.run]
  ·have hold:∀(b:Nat) (x:Go.Obj),(w.alloc (.deferred (some []))).heap[b]? =some x->((w.alloc (.deferred (some []))).alloc (.loop {state:= .ready,pending:=none,fn:=fn,tmps:=a.tmps,params:=ps,assign:=assign,body:=body,defers:=w.heap.size})).heap[b]? =some x:=fun b x hb=>
    (alloc_old (xv.1 hb).1).trans hb
   refine ⟨w.heap.size::rs,by rw [r1];rfl,?_,?_⟩
   ·grind
   ·intro r hr;rcases List.mem_cons.1 hr with rfl | hr
    ·exact ⟨hold _ _ (heap_alloc_new w _),fun hs=>by have:=hh.slt _ hs;omega,fo⟩
    ·exact ⟨hold _ _ ((alloc_old (xv.1 (r3 r hr).1).1).trans (r3 r hr).1),(r3 r hr).2⟩
 | some l0=>
  obtain ⟨r0,ma⟩:=cZ l0 rfl;obtain ⟨k1,k2⟩:=lay w r0.defers Calm.refl cM;refine ⟨w.heap.size,[],_,?_,k1,k2,bN,?_,yr _⟩
  ·simp [Instr.enterLoop,It ma,newObj,Sem.run]
  ·exact AZ hh k2 cM
def atj (hO:eM O) (hC:nY O self) {h:Nat} {f:Operand} {ps:Array Tmp} {assign body:wQ} {cK b':VC} (Ww:B2 O.P (O.hint h) cK assign) (Wx:B2 O.P (O.hint h) b' body) (eW:zS (O.hint h).n ps.toList=true)
  {s:St} {ex:Ex} {s':St} (hv:bH O.prog O.aW self (.rf (aS (O.hint h) f) ps.toList cK b') s=some (ex,s')):Br O h (.rangeFunc f ps assign body) s ex s':=by
 intro ro lo m S w a cZ ht hh hb hn bj fo cM;simp only [bH] at hv
 split at hv
 case h_2=>cases hv
 rename_i n first cap hx
 split at hv
 case h_1=>cases hv
 rename_i hL
 cases he:je O.prog O.aW self ((s.ct,.lp s.tm ps.toList cK b' 0 .none)::s.hp) (s.ct+1) n (first++(.fn (.y s.ct) [] []::cap)) with
 | none=>simp [he] at hv
 | some q=>
  obtain ⟨v,bB,ze⟩:=q;simp only [he] at hv
  split at hv
  case h_2=>cases hv
  rename_i sT K2 K3 JI st pe GO
  cases aP:yv st 1 with
  | true=>rw [aP] at hv;cases hv
  | false=>
   rw [aP] at hv;simp only [yO] at hv;refine wpIn_rangeFunc (fun fn _=>?_);obtain ⟨l,mark,w1,e1,e2,e3,e4,e5,e6⟩:=amh (ro:=ro) fn ps assign body hh ht cZ Ww Wx hn eW fo cM;have rf:=cF (hO.hint h) ht f;rw [hx] at rf;simp only [aj] at rf;obtain ⟨fi,ca,hf,r2,r3⟩:=rf;have hle:=kQ e4 (p:=⟨l,0,0,0⟩);have F2:fX S w w1:=fun b hb=>e3.still b hb
   have ib:av O.ai (fI m s.ct ⟨l,0,0,0⟩) S w1 (first++(.fn (.y s.ct) [] []::cap)) (fi++#[Value.func (.yield l) #[] #[]]++ca).toList:=by
    have:=mg (iA hle (fun _ h=>h) F2 _ _ r2) (mg (a:=[.fn (.y s.ct) [] []]) (x:=[Value.func (.yield l) #[] #[]]) (by
     simp only [av]
     exact ⟨_,[],rfl,by simp only [aj];exact ⟨_,eE,rfl⟩,rfl⟩) (iA hle (fun _ h=>h) F2 _ _ r3))
    grind
   have TU:=hC.heap _ _ _ _ _ _ _ he _ S w1 _ e2 ib;have hP:∃F,O.prog n=some F:=by
    unfold je at he;rw [hL] at he
    cases hq:O.prog n with
    | none=>simp [hq] at he
    | some F=>exact ⟨F,rfl⟩
   obtain ⟨F,hF⟩:=hP;obtain ⟨fn',q1,q2,q3⟩:=hO.prog n F hF;obtain ⟨cb,q4,_⟩:=Rj q2;have fP:(callFunc (O.ai n) (fi++#[Value.func (.yield l) #[] #[]]++ca)).run O.P w1= .ok (.enter (O.ai n) (fi++#[Value.func (.yield l) #[] #[]]++ca)) w1:=Ng q1 (by rw [q4];rfl) q3
   refine ⟨l,mark,w1,{target:= .fn (.func (O.ai n)) ca,args:=fi++#[Value.func (.yield l) #[] #[]]},w1,O.ai n,fi++#[Value.func (.yield l) #[] #[]]++ca,w1,e1,?_,fun _ _=>trivial,?_,fun hd=>by simp [WF,Fence.wide] at hd,?_⟩
   ·show Sem.run O.P (Deferred.ofValue (a.eval f) _) w1=_
    rw [hf];simp [Deferred.ofValue,Act.eval]
   ·simp only [invoke];exact fP
   ·rcases TU with ⟨_,TU⟩ | ⟨u,w',h1,_⟩
    case inr=>rw [fP] at h1;cases h1
    have aqG:CallsIn (WF ro) 0 O.P (O.ai n) (fi++#[Value.func (.yield l) #[] #[]]++ca) w1 (zB O (fI m s.ct ⟨l,0,0,0⟩) S w1 ((s.ct,.lp s.tm ps.toList cK b' 0 .none)::s.hp) (s.ct+1) v bB ze):=TU;refine CallsIn.mono aqG ?_;rintro e w3 ⟨u,m',S',rfl,k1,k2,k3,k4⟩;have gJ:m' s.ct=some ⟨l,0,0,0⟩:=k4.old s.ct _ (Nat.lt_succ_self _) eE;obtain ⟨r,Lj,d1,d2,d3,d4,d5,d6,_⟩:=I1 k1 GO gJ;have qd:(r.state==LoopState.busy)=false:=by
     rw [d3];rcases st with _ | _ | st
     ·rfl
     ·simp_all
     ·have:st=0:=by omega
      subst this;rfl
    have fO:=ET w3 l (.loop {r with state:= .exhausted});have hdl:=aaj k1 s.ct;have oJ:¬ek m' (eG bB s.ct) l:=Ym k1 GO gJ
    have z1:aX O m' S' {w3 with heap:=w3.heap.setIfInBounds l (.loop {r with state:= .exhausted})} (VE.eG bB s.ct) ze:=YS hdl fO d2 oJ (by have:=hh.fY;omega)
    have z2:ck m' S' w3 bB m' S' {w3 with heap:=w3.heap.setIfInBounds l (.loop {r with state:= .exhausted})} (VE.eG bB s.ct) s.base:=by
     refine ⟨rfl,rfl,rfl,by rw [fO.size];exact yr _,fun b _ hb=>fO.other b (fun e=>hb (e▸Ja GO gJ)),fun _ h=>h,fun b hb=>fO.other b (fun e=>d2 (e▸hb)),fun b hb=> .inl hb,fun b hb=> .inl (abg hb),fun _ _ _ h=>h,fun b x hb=>?_⟩
     grind
    have Uz:ck m S w s.hp m' S' {w3 with heap:=w3.heap.setIfInBounds l (.loop {r with state:= .exhausted})} (VE.eG bB s.ct) s.base:=
     ((e3.sD hb).trans (k4.sD (by omega))).trans z2
    have OL:(Instr.endLoop l).run O.P w3= .ok (zM pe) {w3 with heap:=w3.heap.setIfInBounds l (.loop {r with state:= .exhausted})}:=by
     simp only [Instr.endLoop,Sem.run_bind,It d1,Result.andThen_ok,qd,yF,xh,Sem.run_pure,MH (P:=O.P) d1 (fun _ _ _=>by simp),d5]
    have afn:Marks lo S' {w3 with heap:=w3.heap.setIfInBounds l (.loop {r with state:= .exhausted})} (mark++a.defers):=AZ k1 z2 (AZ e2 k4 e5)
    have AE:cd O m' S' {w3 with heap:=w3.heap.setIfInBounds l (.loop {r with state:= .exhausted})} s.tm a.tmps:=by
     refine AY (fun id p hp=>?_) Uz.sub (fun b hb=>Uz.still b hb) ht;have h1:=hh.lt id p hp;exact k4.old id p (by omega) (hle id p hp)
    have post:∀Wy,s'={s with hp:=VE.eG bB s.ct,ct:=ze}->ex=Wy->eU O m S w s ex s' a.tmps.size lo (re Wy) {a with defers:=mark++a.defers} {w3 with heap:=w3.heap.setIfInBounds l (.loop {r with state:= .exhausted})}:=by
     rintro Wy rfl rfl;exact ⟨rfl,m',S',AE,z1,rfl,by show s.base<=ze;omega,Uz,rfl,afn⟩
    refine ⟨_,_,OL,?_⟩
    cases pe with
    | none=>
     simp only [yc,yq] at hv;exact post .normal hv.2.symm hv.1.symm
    | ret=>
     simp only [yc,yq] at hv;exact wpIn_ret (post .ret hv.2.symm hv.1.symm)
    | exit id=>
     simp only [yc,yq] at hv;exact wpIn_exit (post (.exit id) hv.2.symm hv.1.symm)
end
end
section
def Le (f g:cD):Prop:=∀c s r,f c s=some r->g c s=some r
section
variable {P:aG} {L:Lib} {f g:cD}
def Q9 (h:Le f g) (n:Nat) (aq:List AV) (r:AV) (hr:bQ P L f n aq=some r):bQ P L g n aq=some r:=by
 unfold bQ at hr ⊢
 cases hL:L.pure n with
 | some sp=>simpa only [hL] using hr
 | none=>
  simp only [hL] at hr ⊢
  cases hP:P n with
  | none=>simp [hP] at hr
  | some F=>
   simp only [hP] at hr ⊢
   cases hf:f F.body ⟨fL 0 aq,[],0,0⟩ with
   | none=>simp [hf] at hr
   | some q=>rw [h _ _ _ hf];simpa only [hf] using hr
def Rk (h:Le f g) (hp:Hp) (ct:Nat) (n:Nat) (aq:List AV) (r:AV×Hp×Nat) (hr:je P L f hp ct n aq=some r):je P L g hp ct n aq=some r:=by
 unfold je at hr ⊢
 cases hL:L.heap n with
 | some sp=>simpa only [hL] using hr
 | none=>
  simp only [hL] at hr ⊢
  cases hP:P n with
  | none=>simp [hP] at hr
  | some F=>
   simp only [hP] at hr ⊢
   cases hf:f F.body ⟨fL 0 aq,hp,ct,ct⟩ with
   | none=>simp [hf] at hr
   | some q=>rw [h _ _ _ hf];simpa only [hf] using hr
def Ye (h:Le f g) (hp:Hp) (ct:Nat) (l:Nat) (xs:List AV) (r:AV×Hp×Nat) (hr:nX f hp ct l xs=some r):nX g hp ct l xs=some r:=by
 unfold nX at hr ⊢
 cases hl:az hp l with
 | none=>simp [hl] at hr
 | some o=>
  simp only [hl] at hr ⊢
  split at hr
  ·rename_i tm ps cK body pe oK;simp only [yc] at oK;subst oK
   (try simp only at hr ⊢)
   cases hb:rY tm ps xs with
   | none=>simp [hb] at hr
   | some cu=>
    simp only [hb] at hr ⊢
    cases h1:f cK ⟨cu,hp,ct,ct⟩ with
    | none=>simp [h1] at hr
    | some q=>
     rw [h _ _ _ h1];simp only [h1] at hr ⊢
     split at hr
     ·rename_i s1 UA;simp only [yc] at UA;subst UA
      (try simp only at hr ⊢)
      split at hr
      ·rename_i jQ D6 D7 Ds Au afo
       (try simp only [afo])
       cases h2:f body ⟨s1.tm,bg s1.hp l (.lp jQ D6 D7 Ds 1 Au),s1.ct,s1.ct⟩ with
       | none=>simp [h2] at hr
       | some q2=>rw [h _ _ _ h2];simpa only [h2] using hr
      ·simp at hr
     ·simp at hr
  ·simp at hr
def Yr (h:Le f g) (hp:Hp) (ct:Nat) (m:Md) (fv:AV) (xs:List AV) (r:AV×Hp×Nat) (hr:eY P L f hp ct m fv xs=some r):eY P L g hp ct m fv xs=some r:=by
 unfold eY at hr ⊢
 split at hr
 ·rename_i n first cap
  cases m with
  | pure=>
   simp only at hr ⊢
   cases hz:cC deep hp (first++(xs++cap)) with
   | none=>simp [hz] at hr
   | some q=>
    simp only [hz] at hr ⊢
    cases hc:bQ P L f n q.1 with
    | none=>simp [hc] at hr
    | some u=>rw [Q9 h n q.1 u hc];simpa only [hc] using hr
  | own=>
   simp only at hr ⊢
   cases hz:cC deep hp (first++(xs++cap)) with
   | none=>simp [hz] at hr
   | some q=>
    simp only [hz] at hr ⊢
    cases hc:bQ P L f n q.1 with
    | none=>simp [hc] at hr
    | some u=>rw [Q9 h n q.1 u hc];simpa only [hc] using hr
  | heap=>exact Rk h _ _ _ _ _ hr
  | dyn=>
   simp only at hr ⊢
   cases hz:aH (first++(xs++cap)) with
   | true=>
    simp only [hz,yz] at hr ⊢
    cases hc:bQ P L f n (first++(xs++cap)) with
    | none=>simp [hc] at hr
    | some u=>rw [Q9 h n _ u hc];simpa only [hc] using hr
   | false=>
    simp only [hz,yO] at hr ⊢;exact Rk h _ _ _ _ _ hr
 ·split at hr
  ·exact Ye h _ _ _ _ _ hr
  ·exact Ye h _ _ _ _ _ hr
  ·simp at hr
 ·simp at hr
def ZE (h:Le f g) (tm:Env) (hp:Hp) (ct:Nat) (o:Op) (r:AV×Hp×Nat) (hr:br P L f tm hp ct o=some r):br P L g tm hp ct o=some r:=by
 unfold br at hr ⊢
 split at hr
 ·exact Yr h _ _ _ _ _ _ hr
 ·rename_i rs fv xs
  (try simp only at hr ⊢)
  cases hc:eY P L f hp ct .dyn (aA tm fv) (dC tm xs) with
  | none=>simp [hc] at hr
  | some q=>rw [Yr h _ _ _ _ _ _ hc];simpa only [hc] using hr
 all_goals simpa only using hr
def MI (h:Le f g):∀(ops:List bh) (s s':St),dH P L f ops s=some s'->dH P L g ops s=some s'
 | [],s,s',hr=>by simpa only [dH] using hr
 | ⟨d,gd,o⟩::r,s,s',hr=>by
  simp only [dH] at hr ⊢
  split at hr
  ·rename_i hw
   try simp only [hw]
   cases ho:br P L f s.tm s.hp s.ct o with
   | none=>simp [ho] at hr
   | some q=>rw [ZE h _ _ _ _ _ ho];simp only [ho] at hr ⊢;exact MI h r _ _ hr
  ·rename_i hw
   (try simp only [hw]);exact MI h r _ _ hr
  ·simp at hr
def qD (h:Le f g):∀(c:VC) (s:St) (r:Ex×St),bH P L f c s=some r->bH P L g c s=some r
 | .skip,s,r,hr=>by simpa only [bH] using hr
 | .aM ops,s,r,hr=>by
  simp only [bH] at hr ⊢
  cases ho:dH P L f ops s with
  | none=>simp [ho] at hr
  | some s'=>rw [MI h _ _ _ ho];simpa only [ho] using hr
 | .seq a b,s,r,hr=>by
  simp only [bH] at hr ⊢
  cases ha:bH P L f a s with
  | none=>simp [ha] at hr
  | some q=>
   rw [qD h a s q ha];obtain ⟨ex,s1⟩:=q
   cases ex with
   | normal=>simp only [ha] at hr ⊢;exact qD h b s1 r hr
   | ret=>simpa only [ha] using hr
   | exit id=>simpa only [ha] using hr
 | .cond x a b,s,r,hr=>by
  simp only [bH] at hr ⊢
  split at hr
  ·rename_i t ht
   try simp only [ht]
   cases t with
   | true=>simp only [yz] at hr ⊢;exact qD h a s r hr
   | false=>simp only [yO] at hr ⊢;exact qD h b s r hr
  ·simp at hr
 | .aE id a,s,r,hr=>by
  simp only [bH] at hr ⊢
  cases ha:bH P L f a s with
  | none=>simp [ha] at hr
  | some q=>rw [qD h a s q ha];simpa only [ha] using hr
 | .kp live,s,r,hr=>by simpa only [bH] using hr
 | .fz ts,s,r,hr=>by simpa only [bH] using hr
 | .loop live a,s,r,hr=>by
  simp only [bH] at hr ⊢
  cases ha:bH P L f a (aT live s) with
  | none=>simp [ha] at hr
  | some q=>
   rw [qD h a _ q ha];obtain ⟨ex,s1⟩:=q
   cases ex with
   | normal=>simp only [ha] at hr ⊢;exact h _ _ _ hr
   | ret=>simpa only [ha] using hr
   | exit id=>simpa only [ha] using hr
 | .rf fv ps cK body,s,r,hr=>by
  simp only [bH] at hr ⊢
  split at hr
  ·rename_i n first cap hx
   try simp only [hx]
   split at hr
   ·simp at hr
   ·rename_i hL
    try simp only [hL]
    cases hc:je P L f ((s.ct,.lp s.tm ps cK body 0 .none)::s.hp) (s.ct+1) n (first++(.fn (.y s.ct) [] []::cap)) with
    | none=>simp [hc] at hr
    | some q=>rw [Rk h _ _ _ _ _ hc];simpa only [hc] using hr
  ·simp at hr
 | .exit id,s,r,hr=>by simpa only [bH] using hr
 | .ret,s,r,hr=>by simpa only [bH] using hr
end
def I2 (P:aG) (L:Lib) (c:VC) (s:St):ev P L 0 c s=none:=rfl
def I3 (P:aG) (L:Lib) (n:Nat):ev P L (n+1)=bH P L (ev P L n):=rfl
def adP (P:aG) (L:Lib):∀n,Le (ev P L n) (ev P L (n+1))
 | 0=>fun c s r h=>by rw [I2] at h;cases h
 | n+1=>fun c s r h=>by
  rw [I3] at h ⊢;exact qD (adP P L n) c s r h
def SO (P:aG) (L:Lib) {n m:Nat} (h:n<=m):Le (ev P L n) (ev P L m):=by
 induction h with
 | refl=>exact fun _ _ _ h=>h
 | step _ ih=>exact fun c s r hr=>adP P L _ c s r (ih c s r hr)
end
section
open Go
section
variable {O:bt} {self:cD}
def eU.none {m:Mp} {S:Nat->Prop} {w:yj} {s s':St} {ex:Ex} {n lo:Nat} {a:Act} {w':yj} (l:Nat):¬eU O m S w s ex s' n lo (.goto l) a w':=by
 rintro ⟨h,_⟩;cases ex<;>cases h
def eU.then {m m1:Mp} {S S1:Nat->Prop} {w w1:yj} {s s1 s2:St} {ex:Ex} {n lo:Nat} {a':Act} {w':yj} {e:Exit} {ex1:Ex} (h1:s1.base=s.base)
  (hf:ck m S w s.hp m1 S1 w1 s1.hp s.base) (h:eU O m1 S1 w1 s1 ex s2 n lo e a' w'):eU O m S w s ex s2 n lo e a' w':=by
 obtain ⟨h2,m',S',k1,k2,k3,k4,k5,k6,k7⟩:=h;rw [h1] at k3 k4 k5;exact ⟨h2,m',S',k1,k2,k3,k4,hf.trans k5,k6,k7⟩
def eU.eh {m:Mp} {S:Nat->Prop} {w:yj} {s s1:St} {n lo:Nat} {a':Act} {w':yj} {e:Exit} {ex:Ex} (live:List Nat) (h:eU O m S w s ex s1 n lo e a' w'):eU O m S w s ex (aT live s1) n lo e a' w':=by
 obtain ⟨h2,m',S',k1,k2,k3,k4,k5,k6,k7⟩:=h;obtain ⟨m2,g1,g2,g3,g4,g5⟩:=RC (live:=live) k1 k2 (by rw [k3];exact k4)
 rw [k3] at g3 g4 g5;exact ⟨h2,m2,S',g1,g2,g3,g4,k5.trans g5,k6,AZ k2 g5 k7⟩
def adQ {m:Mp} {w:yj} {tmps:Array yf}:∀{ts:List Nat} {s s1:St} {S:Nat->Prop},cd O m S w s.tm tmps->aX O m S w s.hp s.ct->pG ts s=some s1->
  ∃S1,cd O m S1 w s1.tm tmps/\aX O m S1 w s1.hp s1.ct/\s1.base=s.base/\s1.ct=s.ct/\∀base,ck m S w s.hp m S1 w s1.hp base
 | [],s,s1,S,ht,hh,h=>by
  simp only [pG,yc] at h;subst h;exact ⟨S,ht,hh,rfl,rfl,fun _=>ck.refl⟩
 | t::r,s,s1,S,ht,hh,h=>by
  simp only [pG] at h
  cases hz:freeze deep s.hp (ah s.tm t) with
  | none=>simp [hz] at h
  | some q=>
   obtain ⟨v,hp⟩:=q;simp only [hz] at h;obtain ⟨h1,h2,h3⟩:=RQ (O:=O) hz;have hg:iP s.hp s.ct hp s.ct:=⟨h1,yr _,fun id o ho=>(by
     have:=h2 id
     rw [ho] at this
     cases hq:az s.hp id with
     | none=>rw [hq] at this;simp at this
     | some o'=>exact hh.a7 id o' hq),fun id o ho _=>(by
     have:=h2 id
     rw [ho] at this
     cases hq:az s.hp id with
     | none=>rw [hq] at this;simp at this
     | some o'=>exact ⟨o',rfl⟩)⟩
   obtain ⟨S',k1,k2,k3,k4⟩:=Na hh hg;have AE:cd O m S' w ((t,v)::s.tm) tmps:=by
    intro i;simp only [ah]
    cases hb:yv t i with
    | true=>
     have:=yo hb
     subst this;exact (h3 hp m S' w s.ct de.refl k1).1 _ (mi (fun _ _ h=>h) k2 (fun _ _=>rfl) _ _ (ht t))
    | false=>
     exact mi (fun _ _ h=>h) k2 (fun _ _=>rfl) _ _ (ht i)
   obtain ⟨S1,g1,g2,g3,g4,g5⟩:=adQ (s:={s with tm:=(t,v)::s.tm,hp:=hp}) AE k1 h;exact ⟨S1,g1,g2,g3,g4,fun base=>(k4 base).trans (g5 base)⟩
def abm (hO:eM O) (n:Nat) (hC:∀k,k<=n->nY O (ev O.prog O.aW k)) (h:Nat):∀(c:wQ) (l k:Nat) (j:Nat),j<=n->∀(s:St) (ex:Ex) (s':St),
  bH O.prog O.aW (ev O.prog O.aW j) (comp O.P (O.hint h) c l k).1 s=some (ex,s')->Br O h c s ex s':=by
 have refl:∀{s:St} {ex:Ex} {m:Mp} {S:Nat->Prop} {w:yj} {a:Act} {lo:Nat},cd O m S w s.tm a.tmps->aX O m S w s.hp s.ct->s.base<=s.ct->Marks lo S w a.defers->eU O m S w s ex s a.tmps.size lo (re ex) a w:=
  fun h1 h2 h3 h4=>⟨rfl,_,_,h1,h2,rfl,h3,ck.refl,rfl,h4⟩
 have UB:∀{self:cD} {s:St} {r:Ex×St},bH O.prog O.aW self (.aM [⟨none,none,bad⟩]) s=some r->False:=by
  intro self s r hv;simp [bH,dH,bad,br,eY,aA] at hv
 intro c
 induction c with
 | skip=>
  intro l k j hj s ex s' hv ro lo m S w a cZ ht hh hb hn bj fo cM;simp only [comp,bH,yc,yq] at hv;obtain ⟨rfl,rfl⟩:=hv;exact wpIn_skip (refl ht hh hb cM)
 | label x=>
  intro l k j hj s ex s' hv ro lo m S w a cZ ht hh hb hn bj fo cM;simp only [comp,bH,yc,yq] at hv;obtain ⟨rfl,rfl⟩:=hv;exact wpIn_label (refl ht hh hb cM)
 | exit id=>
  intro l k j hj s ex s' hv ro lo m S w a cZ ht hh hb hn bj fo cM;simp only [comp,bH,yc,yq] at hv;obtain ⟨rfl,rfl⟩:=hv
  exact wpIn_exit (refl (ex:= .exit id) ht hh hb cM)
 | ret=>
  intro l k j hj s ex s' hv ro lo m S w a cZ ht hh hb hn bj fo cM;simp only [comp,bH,yc,yq] at hv;obtain ⟨rfl,rfl⟩:=hv
  exact wpIn_ret (refl (ex:= .ret) ht hh hb cM)
 | goto x=>intro l k j hj s ex s' hv;exact (UB (by simpa only [comp] using hv)).elim
 | refuse x=>intro l k j hj s ex s' hv;exact (UB (by simpa only [comp] using hv)).elim
 | region id ops d=>
  intro l k j hj s ex s' hv;simp only [comp] at hv;generalize hq:Nw O.P (O.hint h) ops d k=q at hv;obtain ⟨r,k'⟩:=q;have main:∀{s s':St} {ex:Ex},bH O.prog O.aW (ev O.prog O.aW j) (.aM r) s=some (ex,s')->Br O h (.region id ops d) s ex s':=by
   intro s s' ex hv;simp only [bH] at hv
   cases ho:dH O.prog O.aW (ev O.prog O.aW j) r s with
   | none=>simp [ho] at hv
   | some s1=>
    simp only [ho,yc,yq] at hv;obtain ⟨rfl,rfl⟩:=hv;exact aqF hO (hC j hj) h id ops d k (by rw [hq];exact ho)
  simp only at hv
  split at hv
  ·exact main hv
  ·rename_i t ts _;simp only [bH] at hv
   cases hf:pG (t::ts) s with
   | none=>simp [hf] at hv
   | some s1=>
    simp only [hf] at hv;intro ro lo m S w a cZ ht hh hb hn bj fo cM;obtain ⟨S1,g1,g2,g3,g4,g5⟩:=adQ ht hh hf;have h1:=main (s:=s1) (by simpa only [bH] using hv) ro lo m S1 w a cZ g1 g2 (by rw [g3,g4];exact hb) hn bj fo (AZ hh (g5 s.base) cM)
    refine wpIn_mono h1 (fun e a' w' hp=>?_)
    exact eU.then (ex1:= .normal) g3 (g5 s.base) hp
 | seq x y ihx ihy=>
  intro l k j hj s ex s' hv ro lo m S w a cZ ht hh hb hn bj fo cM;simp only [comp] at hv;generalize zf:comp O.P (O.hint h) x l k=qx at hv;obtain ⟨x',l1,k1⟩:=qx;simp only at hv;generalize Lk:comp O.P (O.hint h) y l1 k1=qy at hv;obtain ⟨y',l2,k2⟩:=qy;simp only [bH] at hv
  cases hx:bH O.prog O.aW (ev O.prog O.aW j) x' s with
  | none=>simp [hx] at hv
  | some r=>
   obtain ⟨ex1,s1⟩:=r;have h1:=ihx l k j hj s ex1 s1 (by rw [zf];exact hx) ro lo m S w a cZ ht hh hb hn bj fo cM
   refine wpIn_seq (wpIn_mono h1 ?_);rintro e a1 w1 ⟨rfl,m1,S1,g1,g2,g3,g4,g5,g6,g7⟩;have stop:ex1≠.normal->ex=ex1/\s'=s1:=by
    intro fU;rw [hx] at hv
    cases ex1 with
    | normal=>exact absurd rfl fU
    | ret=>simp only [yc,yq] at hv;exact ⟨hv.1.symm,hv.2.symm⟩
    | exit id=>simp only [yc,yq] at hv;exact ⟨hv.1.symm,hv.2.symm⟩
   cases ex1 with
   | normal=>
    simp only [hx] at hv;simp only [re,Exit.then];have h2:=ihy l1 k1 j hj s1 ex s' (by rw [Lk];exact hv) ro lo m1 S1 w1 a1 (MU g5 cZ) g1 g2 (by rw [g3];exact g4) (by rw [g6];exact hn) bj (xn fo g5.size) g7
    rw [g6] at h2
    exact wpIn_mono h2 (fun e a' w' hp=>eU.then (ex1:= .normal) g3 g5 hp)
   | ret=>
    obtain ⟨rfl,rfl⟩:=stop (by simp);exact ⟨rfl,m1,S1,g1,g2,g3,g4,g5,g6,g7⟩
   | exit id=>
    obtain ⟨rfl,rfl⟩:=stop (by simp);exact ⟨rfl,m1,S1,g1,g2,g3,g4,g5,g6,g7⟩
 | cond x p q ihp ihq=>
  intro l k j hj s ex s' hv ro lo m S w a cZ ht hh hb hn bj fo cM;simp only [comp] at hv;generalize zf:comp O.P (O.hint h) p (l+1) k=qx at hv;obtain ⟨p',l1,k1⟩:=qx;simp only at hv;generalize Lk:comp O.P (O.hint h) q l1 k1=qy at hv;obtain ⟨q',l2,k2⟩:=qy;simp only at hv;have main:∀(ex:Ex) (s':St),bH O.prog O.aW (ev O.prog O.aW j) (.cond (aS (O.hint h) x) p' q') s=some (ex,s')->(Code.cond x p q).wpIn (WF ro) 0 O.P (eU O m S w s ex s' a.tmps.size lo) a w:=by
   intro ex s' hv;simp only [bH] at hv;have rx:=cF (hO.hint h) ht x
   split at hv
   ·rename_i t hx;rw [hx] at rx;simp only [aj] at rx
    cases t with
    | true=>
     simp only [yz] at hv;exact wpIn_cond_true rx (ihp (l+1) k j hj s ex s' (by rw [zf];exact hv) ro lo m S w a cZ ht hh hb hn bj fo cM)
    | false=>
     simp only [yO] at hv;exact wpIn_cond_false rx (ihq l1 k1 j hj s ex s' (by rw [Lk];exact hv) ro lo m S w a cZ ht hh hb hn bj fo cM)
   ·cases hv
  cases F3:(O.hint h).out l with
  | none=>rw [F3] at hv;exact main ex s' hv
  | some live=>
   rw [F3] at hv;simp only at hv;rw [show bH O.prog O.aW (ev O.prog O.aW j) (.seq (.cond (aS (O.hint h) x) p' q') (.kp live)) s=match bH O.prog O.aW (ev O.prog O.aW j) (.cond (aS (O.hint h) x) p' q') s with | some (.normal,s1)=>some (.normal,aT live s1) | r=>r from rfl] at hv
   cases hx:bH O.prog O.aW (ev O.prog O.aW j) (.cond (aS (O.hint h) x) p' q') s with
   | none=>simp [hx] at hv
   | some r=>
    obtain ⟨ex1,s1⟩:=r;have h1:=main ex1 s1 hx;rw [hx] at hv
    cases ex1 with
    | normal=>
     simp only [yc,yq] at hv;obtain ⟨rfl,rfl⟩:=hv;exact wpIn_mono h1 (fun e a' w' hp=>eU.eh live hp)
    | ret=>simp only [yc,yq] at hv;obtain ⟨rfl,rfl⟩:=hv;exact h1
    | exit id=>simp only [yc,yq] at hv;obtain ⟨rfl,rfl⟩:=hv;exact h1
 | block id x ih=>
  intro l k j hj s ex s' hv ro lo m S w a cZ ht hh hb hn bj fo cM;simp only [comp] at hv;generalize zf:comp O.P (O.hint h) x l k=qx at hv;obtain ⟨x',r⟩:=qx;simp only at hv;have main:∀(ex:Ex) (s':St),bH O.prog O.aW (ev O.prog O.aW j) (.aE id x') s=some (ex,s')->(Code.block id x).wpIn (WF ro) 0 O.P (eU O m S w s ex s' a.tmps.size lo) a w:=by
   intro ex s' hv;simp only [bH] at hv
   cases hx:bH O.prog O.aW (ev O.prog O.aW j) x' s with
   | none=>simp [hx] at hv
   | some q=>
    obtain ⟨ex1,s1⟩:=q;have h1:=ih l k j hj s ex1 s1 (by rw [zf];exact hx) ro lo m S w a cZ ht hh hb hn bj fo cM
    refine wpIn_block (wpIn_mono h1 ?_);rintro e a1 w1 ⟨rfl,g⟩
    cases ex1 with
    | normal=>
     simp only [hx,yc,yq] at hv;obtain ⟨rfl,rfl⟩:=hv;exact ⟨rfl,g⟩
    | ret=>
     simp only [hx,yc,yq] at hv;obtain ⟨rfl,rfl⟩:=hv;exact ⟨rfl,g⟩
    | exit i=>
     simp only [hx] at hv
     cases P4:yv i id with
     | true=>
      rw [P4] at hv;simp only [yz,yc,yq] at hv;obtain ⟨rfl,rfl⟩:=hv
      have:=yo P4
      subst this;simp only [re,Exit.inBlock,xm];exact ⟨rfl,g⟩
     | false=>
      rw [P4] at hv;simp only [yO,yc,yq] at hv;obtain ⟨rfl,rfl⟩:=hv;have fU:i≠id:=fun e=>by subst e;simp at P4
      simp only [re,Exit.inBlock,fU,xh];exact ⟨rfl,g⟩
  have atk:∀live:List Nat,bH O.prog O.aW (ev O.prog O.aW j) (.seq (.aE id x') (.kp live)) s=some (ex,s')->(Code.block id x).wpIn (WF ro) 0 O.P (eU O m S w s ex s' a.tmps.size lo) a w:=by
   intro live hv;rw [show bH O.prog O.aW (ev O.prog O.aW j) (.seq (.aE id x') (.kp live)) s=match bH O.prog O.aW (ev O.prog O.aW j) (.aE id x') s with | some (.normal,s1)=>some (.normal,aT live s1) | r=>r from rfl] at hv
   cases hx:bH O.prog O.aW (ev O.prog O.aW j) (.aE id x') s with
   | none=>simp [hx] at hv
   | some r=>
    obtain ⟨ex1,s1⟩:=r;have h1:=main ex1 s1 hx;rw [hx] at hv
    cases ex1 with
    | normal=>
     simp only [yc,yq] at hv;obtain ⟨rfl,rfl⟩:=hv;exact wpIn_mono h1 (fun e a' w' hp=>eU.eh live hp)
    | ret=>simp only [yc,yq] at hv;obtain ⟨rfl,rfl⟩:=hv;exact h1
    | exit id=>simp only [yc,yq] at hv;obtain ⟨rfl,rfl⟩:=hv;exact h1
  split at hv
  ·exact atk _ hv
  ·exact main ex s' hv
 | loop x ih=>
  intro l k j hj s ex s' hv;simp only [comp] at hv;generalize zf:comp O.P (O.hint h) x (l+1) k=qx at hv;obtain ⟨x',r⟩:=qx;simp only at hv;have rounds:∀(j:Nat),j<=n->∀(s:St) (ex:Ex) (s':St),bH O.prog O.aW (ev O.prog O.aW j) (.loop ((O.hint h).live l) x') s=some (ex,s')->∃K,∀(ro:Option Nat) (lo:Nat) (m:Mp) (S:Nat->Prop) (w:yj) (a:Act),zN ro w->cd O m S w s.tm a.tmps->aX O m S w s.hp s.ct->s.base<=s.ct->(O.hint h).n<=a.tmps.size->O.w0.heap.size<=lo->lo<=w.heap.size->Marks lo S w a.defers->
    Code.roundsIn (WF ro) 0 O.P x (eU O m S w s ex s' a.tmps.size lo) K a w:=by
   intro j
   induction j with
   | zero=>
    intro hj s ex s' hv;simp only [bH] at hv
    cases hx:bH O.prog O.aW (ev O.prog O.aW 0) x' (aT ((O.hint h).live l) s) with
    | none=>simp [hx] at hv
    | some q=>
     obtain ⟨ex1,s1⟩:=q;have stop:ex1≠.normal->ex=ex1/\s'=s1:=by
      intro fU;rw [hx] at hv
      cases ex1 with
      | normal=>exact absurd rfl fU
      | ret=>simp only [yc,yq] at hv;exact ⟨hv.1.symm,hv.2.symm⟩
      | exit id=>simp only [yc,yq] at hv;exact ⟨hv.1.symm,hv.2.symm⟩
     refine ⟨1,fun ro lo m S w a cZ ht hh hb hn bj fo cM=>?_⟩;rw [roundsIn_succ];obtain ⟨m1,c1,c2,c3,c4,c5⟩:=RC (live:=(O.hint h).live l) ht hh hb;have h1:=ih (l+1) k 0 hj _ ex1 s1 (by rw [zf];exact hx) ro lo m1 S w a cZ c1 c2 (by rw [c3];exact c4) hn bj fo cM
     refine wpIn_mono h1 ?_;rintro e a1 w1 hp;have ap:=eU.then (O:=O) (m:=m) (S:=S) (w:=w) (s:=s) (ex1:= .normal) c3 c5 hp;obtain ⟨rfl,_⟩:=hp
     cases ex1 with
     | normal=>simp only [hx,I2] at hv;cases hv
     | ret=>obtain ⟨rfl,rfl⟩:=stop (by simp);exact ap
     | exit id=>obtain ⟨rfl,rfl⟩:=stop (by simp);exact ap
   | succ j ihj=>
    intro hj s ex s' hv;simp only [bH] at hv
    cases hx:bH O.prog O.aW (ev O.prog O.aW (j+1)) x' (aT ((O.hint h).live l) s) with
    | none=>simp [hx] at hv
    | some q=>
     obtain ⟨ex1,s1⟩:=q;have stop:ex1≠.normal->ex=ex1/\s'=s1:=by
      intro fU;rw [hx] at hv
      cases ex1 with
      | normal=>exact absurd rfl fU
      | ret=>simp only [yc,yq] at hv;exact ⟨hv.1.symm,hv.2.symm⟩
      | exit id=>simp only [yc,yq] at hv;exact ⟨hv.1.symm,hv.2.symm⟩
     have more:∃K,ex1= .normal->∀(ro:Option Nat) (lo:Nat) (m:Mp) (S:Nat->Prop) (w:yj) (a:Act),zN ro w->cd O m S w s1.tm a.tmps->aX O m S w s1.hp s1.ct->s1.base<=s1.ct->(O.hint h).n<=a.tmps.size->O.w0.heap.size<=lo->lo<=w.heap.size->Marks lo S w a.defers->
       Code.roundsIn (WF ro) 0 O.P x (eU O m S w s1 ex s' a.tmps.size lo) K a w:=by
      cases ex1 with
      | normal=>
       rw [hx] at hv;have eX:ev O.prog O.aW (j+1) (.loop ((O.hint h).live l) x') s1=some (ex,s'):=hv;rw [I3] at eX;obtain ⟨K,hK⟩:=ihj (by omega) s1 ex s' eX;exact ⟨K,fun _=>hK⟩
      | ret=>exact ⟨0,fun h=>by cases h⟩
      | exit id=>exact ⟨0,fun h=>by cases h⟩
     obtain ⟨K,hK⟩:=more;refine ⟨K+1,fun ro lo m S w a cZ ht hh hb hn bj fo cM=>?_⟩;rw [roundsIn_succ];obtain ⟨m1,c1,c2,c3,c4,c5⟩:=RC (live:=(O.hint h).live l) ht hh hb;have h1:=ih (l+1) k (j+1) hj _ ex1 s1 (by rw [zf];exact hx) ro lo m1 S w a cZ c1 c2 (by rw [c3];exact c4) hn bj fo cM
     refine wpIn_mono h1 ?_;rintro e a1 w1 hp;have ap:=eU.then (O:=O) (m:=m) (S:=S) (w:=w) (s:=s) (ex1:= .normal) c3 c5 hp;obtain ⟨rfl,_⟩:=hp
     cases ex1 with
     | normal=>
      simp only [re,Exit.then];obtain ⟨_,m2,S2,g1,g2,g3,g4,g5,g6,g7⟩:=ap;have h2:=hK rfl ro lo m2 S2 w1 a1 (MU g5 cZ) g1 g2 (by rw [g3];exact g4) (by rw [g6];exact hn) bj (xn fo g5.size) g7
      rw [g6] at h2;revert h2;generalize hA:a.tmps.size=sz;intro h2;have step:∀(K:Nat) (a':Act) (w':yj),Code.roundsIn (WF ro) 0 O.P x (eU O m2 S2 w1 s1 ex s' sz lo) K a' w'->Code.roundsIn (WF ro) 0 O.P x (eU O m S w s ex s' sz lo) K a' w':=by
       intro K
       induction K with
       | zero=>intro a' w' B8;exact B8
       | succ K ihK=>
        intro a' w' B8;rw [roundsIn_succ] at B8 ⊢;refine wpIn_mono B8 (fun e a'' D8 hq=>?_)
        cases e with
        | normal=>exact ihK a'' D8 hq
        | exit id=>exact eU.then (ex1:= .normal) g3 g5 hq
        | goto x=>exact eU.then (ex1:= .normal) g3 g5 hq
        | ret=>exact eU.then (ex1:= .normal) g3 g5 hq
        | panic x=>exact eU.then (ex1:= .normal) g3 g5 hq
        | outgrown=>exact eU.then (ex1:= .normal) g3 g5 hq
      exact step K a1 w1 h2
     | ret=>obtain ⟨rfl,rfl⟩:=stop (by simp);exact ap
     | exit id=>obtain ⟨rfl,rfl⟩:=stop (by simp);exact ap
  obtain ⟨K,hK⟩:=rounds j hj s ex s' hv;intro ro lo m S w a cZ ht hh hb hn bj fo cM;exact wpIn_loop_rounds K (hK ro lo m S w a cZ ht hh hb hn bj fo cM)
 | scope x ih=>
  intro l k j hj s ex s' hv ro lo m S w a cZ ht hh hb hn bj fo cM;simp only [comp] at hv;exact ajj (ih l k j hj s ex s' hv ro lo m S w a cZ ht hh hb hn bj fo cM) (fun l a w=>eU.none l)
 | rangeFunc f ps cK body iha ihb=>
  intro l k j hj s ex s' hv;simp only [comp] at hv;generalize zf:comp O.P (O.hint h) cK l k=qx at hv;obtain ⟨x',l1,k1⟩:=qx;simp only at hv;generalize Lk:comp O.P (O.hint h) body l1 k1=qy at hv;obtain ⟨y',l2,k2⟩:=qy;simp only at hv
  cases ha:zS (O.hint h).n ps.toList with
  | false=>rw [ha] at hv;exact (UB hv).elim
  | true=>
   rw [ha] at hv;exact atj hO (hC j hj) ⟨l,k,by rw [zf]⟩ ⟨l1,k1,by rw [Lk]⟩ ha hv
end
end
section
open Go
section
variable {O:bt} {m:Mp} {S:Nat->Prop} {w:yj}
def ZF:∀(aq:List AV) (j i:Nat),ah (fL j aq) (j+i)=aq.getD i .undef
 | [],j,i=>by simp [fL,ah]
 | v::r,j,i=>by
  cases i with
  | zero=>simp [fL,ah]
  | succ i=>
   simp only [fL,ah];have hb:yv j (j+(i+1))=false:=by
    cases hq:yv j (j+(i+1)) with
    | false=>rfl
    | true=>have:=yo hq;omega
   rw [hb,show j+(i+1)=j+1+i by omega];rw [ZF r (j+1) i]
   simp
def ZG {aq:List AV} {args:Array yf} (n:Nat) (h:av O.ai m S w aq args.toList):cd O m S w (fL 0 aq) (args++ux n undef):=by
 intro i
 have:=ZF aq 0 i
 rw [Nat.zero_add] at this;rw [this,List.getD_eq_getElem?_getD]
 cases hv:aq[i]? with
 | none=>simp only [Option.getD_none,aj]
 | some v=>
  obtain ⟨u,h1,h2⟩:=Sg h hv;have hl:i<args.size:=by
   grind
  have:(args++ux n undef).getD i undef=u:=by
   rw [Array.getD_eq_getD_getElem?,Array.getElem?_append_left hl]
   grind
  grind
def F5 (tmps:Array yf):yby->Sem yf
 | .tmp t=>pure (tmps.getD t undef)
 | .cell a t=>do loadVar t (<-asAddr (tmps.getD a undef))
def ajk (fn:tv) (tmps:Array yf):results fn tmps=(do let vs <-fn.results.mapM (F5 tmps);pure (if h:vs.size=1 then vs[0] else .tuple vs)):=by
 rfl
def RE {s:St} {ct:Nat} {tmps:Array yf} (hh:aX O m S w s.hp ct) (ht:cd O m S w s.tm tmps):∀{rs:List yby} {rv:List RV} {vs:List AV},pk O.P rs=some rv->lK s rv=some vs->
  ∃us,(rs.mapM (F5 tmps)).run O.P w= .ok us w/\av O.ai m S w vs us
 | [],rv,vs,h1,h2=>by
  simp only [pk,yc] at h1;subst h1;simp only [lK,yc] at h2;subst h2;exact ⟨[],by simp,by simp [av]⟩
 | .tmp t::rs,rv,vs,h1,h2=>by
  simp only [pk] at h1
  cases hc:pk O.P rs with
  | none=>simp [hc] at h1
  | some l=>
   simp only [hc,yc] at h1;subst h1;simp only [lK,results1] at h2
   cases hl:lK s l with
   | none=>simp [hl] at h2
   | some K1=>
    simp only [hl,yc] at h2;subst h2;obtain ⟨us,g1,g2⟩:=RE hh ht hc hl;refine ⟨tmps.getD t undef::us,?_,by simp only [av];exact ⟨_,_,rfl,ht t,g2⟩⟩
    rw [vQ];simp only [F5,Sem.run_bind,Sem.run_pure,Result.andThen_ok];rw [g1];rfl
 | .cell a t::rs,rv,vs,h1,h2=>by
  simp only [pk] at h1
  cases hz:cL O.P t with
  | none=>simp [hz] at h1
  | some sz=>
   cases Ll:dQ O.P t with
   | none=>simp [hz,Ll] at h1
   | some ag=>
    cases hc:pk O.P rs with
    | none=>simp [hz,Ll,hc] at h1
    | some l=>
     simp only [hz,Ll,hc,yc] at h1;subst h1;simp only [lK] at h2
     cases cw:results1 s (.cell a sz ag) with
     | none=>simp [cw] at h2
     | some v=>
      cases hl:lK s l with
      | none=>simp [cw,hl] at h2
      | some K1=>
       simp only [cw,hl,yc] at h2;subst h2;obtain ⟨us,g1,g2⟩:=RE hh ht hc hl;have ra:=ht a;have key:∃b o u,tmps.getD a undef= .pointer (some ⟨b,o,none⟩)/\(loadVar t ⟨b,o,none⟩).run O.P w= .ok u w/\aj O.ai m S w v u:=by
        simp only [results1] at cw;cases hta:ah s.tm a<;>rw [hta] at cw ra<;>simp only [reduceCtorEq] at cw
        ·rename_i id o;simp only [aj] at ra;obtain ⟨p,hm,hp⟩:=ra
         cases hg:az s.hp id with
         | none=>simp [hg] at cw
         | some ob=>
          cases ob<;>simp only [hg,reduceCtorEq] at cw
          have Wz:=Sf (o:=0) (n:=0) hh hg hm;obtain ⟨u,q1,q2⟩:=Ny hz Ll (rP o _ p.b p.o Wz) cw;exact ⟨p.b,p.o+o,u,hp,q1,q2⟩
        ·rename_i cs;simp only [aj] at ra;obtain ⟨b,o,hp,_,_,Wz⟩:=ra;obtain ⟨u,q1,q2⟩:=Ny hz Ll Wz cw;exact ⟨b,o,u,hp,q1,q2⟩
       obtain ⟨b,o,u,q1,q2,q3⟩:=key;refine ⟨u::us,?_,by simp only [av];exact ⟨_,_,rfl,q3,g2⟩⟩
       rw [vQ]
       have:(F5 tmps (.cell a t)).run O.P w= .ok u w:=by
        simp only [F5];rw [q1];simp [asAddr,q2]
       rw [Sem.run_bind,this,Result.andThen_ok,Sem.run_bind,g1];rfl
def aiN {s:St} {ct:Nat} {tmps:Array yf} {fn:tv} {rv:List RV} {v:AV} (hh:aX O m S w s.hp ct) (ht:cd O m S w s.tm tmps) (h1:pk O.P fn.results.toList=some rv) (h2:jb s rv=some v):
  ∃u,(results fn tmps).run O.P w= .ok u w/\aj O.ai m S w v u:=by
 unfold jb at h2
 cases hl:lK s rv with
 | none=>simp [hl] at h2
 | some vs=>
  obtain ⟨us,g1,g2⟩:=RE hh ht h1 hl;have hlen:=jc _ _ g2;have hm:(fn.results.mapM (F5 tmps)).run O.P w= .ok us.toArray w:=by
   rw [Array.mapM_eq_mapM_toList];simp [g1]
  have gS:(results fn tmps).run O.P w= .ok (if h:us.toArray.size=1 then us.toArray[0] else .tuple us.toArray) w:=by
   rw [ajk,Sem.run_bind,hm];rfl
  rw [hl] at h2
  split at h2
  ·rename_i v' oK;simp only [yc] at oK h2;subst oK;simp only [av] at g2
   grind
  ·rename_i dL fU oK;simp only [yc] at oK h2;subst oK;subst h2;have h1:¬us.toArray.size=1:=by
    intro h
    have:vs.length=1:=by simp_all
    cases vs with
    | nil=>simp at this
    | cons x t=>
     cases t with
     | nil=>exact fU x rfl
     | cons y t=>simp at this
   simp only [aj]
   grind
  ·grind
def R1 {s:St} {tmps:Array yf} {fn:tv} {rv:List RV} {v:AV} {m0:Mp} {S0:Nat->Prop} {w0:yj} {hp0:Hp} {P5:Nat} (h1:pk O.P fn.results.toList=some rv) (h2:jb s rv=some v) (iv:P5<=s.ct):∀(rs:List Nat) (w:yj),
  rs.Nodup->(∀r,r∈rs->w.heap[r]? =some (.deferred (some []))/\¬S r/\w0.heap.size<=r)->O.w0.heap.size<=w0.heap.size->aX O m S w s.hp s.ct->cd O m S w s.tm tmps->ck m0 S0 w0 hp0 m S w s.hp P5->
  ybB Fence.wide 0 O.P fn tmps (zB O m0 S0 w0 hp0 P5 v s.hp s.ct) (rs.map (fun r=>{target:= .collected r,args:=#[]})) .returning w
 | [],w,_,_,_,hh,ht,hf=>by
  obtain ⟨u,g1,g2⟩:=aiN hh ht h1 h2;exact ⟨u,g1,u,m,S,rfl,hh,iv,g2,hf⟩
 | r::rs,w,lZ,hr,bj,hh,ht,hf=>by
  obtain ⟨mT,ew⟩:=List.nodup_cons.1 lZ;obtain ⟨a1,a2,a3⟩:=hr r List.mem_cons_self;have fO:=ET w r (.deferred none);have oJ:¬ek m s.hp r:=fun ho=>aan hh ho _ a1
  have B8:=YS hh fO a2 oJ (xn bj a3)
  have aP:fX S w {w with heap:=w.heap.setIfInBounds r (.deferred none)}:=fun b hb=>fO.other b (fun e=>a2 (e▸hb))
  have et:ck m0 S0 w0 hp0 m S {w with heap:=w.heap.setIfInBounds r (.deferred none)} s.hp P5:=by
   refine ⟨hf.os,hf.tape,hf.output,by rw [fO.size];exact hf.size,fun b hb ho=>(fO.other b (by omega)).trans (hf.same b hb ho),hf.sub,fun b hb=>(fO.other b (fun e=>a2 (e▸hf.sub b hb))).trans (hf.still b hb),hf.new,hf.own,hf.old,fun b x hb=>?_⟩
   obtain ⟨x',hx⟩:=hf.loops b x hb;exact ⟨x',(fO.other b (fun e=>by subst e;rw [a1] at hx;cases hx)).trans hx⟩
  refine ⟨by simp,.inl ⟨r,_,rfl,?_,R1 h1 h2 iv rs _ ew (fun r' cm=>?_) bj B8 (AY (fun _ _ h=>h) (fun _ h=>h) aP ht) et⟩⟩
  ·simp only [Instr.takeDeferred,Sem.run_bind,YT (P:=O.P) a1 (fun _ _ _=>by simp),Result.andThen_ok,MH (P:=O.P) a1 (fun _ _ _=>by simp),Sem.run_pure]
  ·obtain ⟨b1,b2,b3⟩:=hr r' (List.mem_cons_of_mem _ cm);exact ⟨(fO.other r' (fun e=>mT (e▸cm))).trans b1,b2,b3⟩
end
section
variable {O:bt} {self:cD}
def atl (hO:eM O) (hS:∀v s ex s',self v s=some (ex,s')->∀c h l k,(comp O.P (O.hint h) c l k).1=v->Br O h c s ex s') {n:Nat} {F:aD} (hF:O.prog n=some F) {hp:Hp} {ct:Nat} {aq:List AV} {ex:Ex} {s:St}
  (hv:self F.body ⟨fL 0 aq,hp,ct,ct⟩=some (ex,s)) (hex:ex= .normal\/ex= .ret) {v:AV} (hr:jb s F.dw=some v):Bq O n hp ct aq v s.hp s.ct:=by
 intro m S w args hh ib;obtain ⟨fn,q1,q2,q3⟩:=hO.prog n F hF;obtain ⟨c,q4,q5,q6,q7⟩:=Rj q2;refine .inl ⟨Ng q1 (by rw [q4];rfl) q3,?_⟩
 have hc:=hS _ _ _ _ hv c n 0 0 q5.symm;have hw:=hc none w.heap.size m S w {tmps:=args++ux (fn.ntmps-args.size) undef,defers:=[]} (fun l hl=>by cases hl) (ZG _ ib) hh (yr _) (by simp;omega) hh.fY (yr _) ⟨[],rfl,by simp,by simp⟩
 refine callsIn_of_wp_marks (F:=Fence.wide) q1 q4 trivial (wpIn_mono hw ?_);rintro e a' w' ⟨rfl,m',S',k1,k2,k3,k4,k5,k6,rs,k7,k8,k9⟩;have main:ybB Fence.wide 0 O.P fn a'.tmps (zB O m S w hp ct v s.hp s.ct) a'.defers .returning w':=by
  rw [k7];exact R1 q6 hr k4 rs w' k8 k9 hh.fY k2 k1 k5
 rcases hex with rfl | rfl
 ·exact main
 ·exact main
def A9.mono {P:xi} {f:tF} {args:Array yf} {w:yj} {R R':Ending->yj->Prop} (h:A9 P f args w R) (hr:∀e w',R e w'->R' e w'):A9 P f args w R':=by
 rcases h with ⟨h1,h2⟩ | ⟨u,w',h1,h2⟩
 ·exact .inl ⟨h1,CallsIn.mono h2 hr⟩
 ·exact .inr ⟨u,w',h1,hr _ _ h2⟩
def ako {w:yj} {S:Nat->Prop} (hg:Bp O w) (hs:∀b,S b->b<w.heap.size):aX O ff S w [] 0:=
 ⟨(fun id o p h _=>by simp [az] at h),(fun id p h=>by cases h),(fun i j oi oj pi pj h=>by simp [az] at h),hs,(fun id p h=>by cases h),(fun id p h=>by cases h),hg.1,hg.2,(fun id o h=>by simp [az] at h)⟩
def Ss {b:Nat} (h:ek ff [] b):False:=by
 obtain ⟨_,_,_,h,_⟩:=h;simp [az] at h
def Re {n:Nat} {aq:List AV} {v r:AV} {s:St} (h:Bq O n [] 0 aq v s.hp s.ct) (hr:result s.hp v=some r):eS O n aq r:=by
 intro w S args hg hs ib hp;refine A9.mono (h ff S w args (ako hg hs) ib) ?_;rintro e w' ⟨u,m',S',rfl,k1,k2,k3,k4⟩;have bj:∀b,ek m' s.hp b->w.heap.size<=b:=fun b hb=>(k4.own b hb).elim (fun h=>(Ss h).elim) (fun h=>h)
 obtain ⟨S2,g1,g2,g3,g4⟩:=akf (lo:=w.heap.size) k1 hr k3 bj;refine ⟨u,S2,rfl,⟨k4.os,k4.tape,k4.output,k4.size,fun b hb=>k4.same b hb Ss⟩,fun b hb=>g1 b (k4.sub b hb),fun b hb=>?_,g3,g4⟩;rcases g2 b hb with h | h
 ·rcases k4.new b h with h | h | h
  ·exact .inl h
  ·exact (Ss h).elim
  ·exact .inr h
 ·exact .inr (bj b h)
def ajl (hO:eM O) (hS:∀v s ex s',self v s=some (ex,s')->∀c h l k,(comp O.P (O.hint h) c l k).1=v->Br O h c s ex s'):nY O self:=by
 have heap:∀(n:Nat) (F:aD),O.prog n=some F->∀(hp:Hp) (ct:Nat) (aq:List AV) (ex:Ex) (s:St) (v:AV),self F.body ⟨fL 0 aq,hp,ct,ct⟩=some (ex,s)->(ex= .normal\/ex= .ret)->jb s F.dw=some v->Bq O n hp ct aq v s.hp s.ct:=
  fun n F hF hp ct aq ex s v h1 h2 h3=>atl hO hS hF h1 h2 h3
 refine ⟨?_,?_,fun hp ct l xs v ap bc hv=>amg hS hv⟩
 ·intro n aq r hv;unfold bQ at hv
  cases hL:O.aW.pure n with
  | some sp=>rw [hL] at hv;exact hO.aW n sp aq r hL hv
  | none=>
   simp only [hL] at hv
   cases hF:O.prog n with
   | none=>simp [hF] at hv
   | some F=>
    simp only [hF] at hv
    split at hv
    ·rename_i s hb
     cases hr:jb s F.dw with
     | none=>simp [hr] at hv
     | some v=>simp only [hr] at hv;exact Re (heap n F hF [] 0 aq .normal s v hb (.inl rfl) hr) hv
    ·rename_i s hb
     cases hr:jb s F.dw with
     | none=>simp [hr] at hv
     | some v=>simp only [hr] at hv;exact Re (heap n F hF [] 0 aq .ret s v hb (.inr rfl) hr) hv
    ·cases hv
 ·intro hp ct n aq v ap bc hv;unfold je at hv
  cases hL:O.aW.heap n with
  | some sp=>rw [hL] at hv;exact hO.F1 n sp hp ct aq v ap bc hL hv
  | none=>
   simp only [hL] at hv
   cases hF:O.prog n with
   | none=>simp [hF] at hv
   | some F=>
    grind
def Ys (hO:eM O):∀n,nY O (ev O.prog O.aW n):=by
 intro n
 induction n using Nat.strongRecOn with
 | _ n ih=>
  refine ajl hO (fun v s ex s' hv c h l k hc=>?_)
  cases n with
  | zero=>rw [I2] at hv;cases hv
  | succ n=>
   rw [I3,<-hc] at hv;exact abm hO n (fun k hk=>ih k (by omega)) h c l k n (yr _) s ex s' hv
def sound (hO:eM O) {n f:Nat} {aq:List AV} {r:AV} (h:V7 O.prog O.aW n f aq=some r):eS O f aq r:=(Ys hO n).pure f aq r h
end
end
section
open Go (IntKind)
def gQ:List Nat->List Nat->Bool
 | [],_=>true
 | a::x,b::y=>yv a b&&gQ x y
 | _::_,[]=>false
def mr (sub:List Nat):List Nat->Nat->Option Nat
 | [],k=>bif gQ sub [] then some k else none
 | b::r,k=>bif gQ sub (b::r) then some k else mr sub r (k+1)
def OM:List AV->Option AV
 | [.str s,.str sep]=>
  bif yM s.length 4294967281 then
   match mr sep s 0 with
   | some i=>some (.au [.str (s.take i),.str (s.drop (i+sep.length)),.bool true])
   | none=>some (.au [.str s,.str [],.bool false])
  else none
 | _=>none
def MJ:List AV->Option AV
 | [.str s,.str p]=>some (bif gQ p s then .au [.str (s.drop p.length),.bool true] else .au [.str s,.bool false])
 | _=>none
def MK:List AV->Option AV
 | [.str s,.str p]=>some (.bool (gQ p s))
 | _=>none
def My:List AV->Option AV
 | [.str s,.str p]=>some (.str (bif gQ p s then s.drop p.length else s))
 | _=>none
def F6 (i:Nat):List Nat->Bool
 | []=>false
 | j::r=>bif yv j i then true else F6 i r
def kZ (set:List Nat):List Nat->List Nat
 | []=>[]
 | b::r=>bif F6 b set then kZ set r else b::r
def Fl:List Nat->Bool
 | []=>true
 | b::r=>yM b 128&&Fl r
def trimS:List AV->Option AV
 | [.str s,.str set]=>bif Fl set&&(yM s.length 4294967281&&yM set.length 4294967281) then some (.str (kZ set (kZ set s.reverse).reverse)) else none
 | _=>none
def ig (s:List Nat):Nat->List Nat
 | 0=>[]
 | n+1=>s++ig s n
def Ba:List AV->Option AV
 | [.str s,.int .i64 (.ofNat n)]=>bif yE n 1099511627776&&yE (s.length*n) 1099511627776 then some (.str (ig s n)) else none
 | _=>none
def ni:Nat->Nat->List Nat->List Nat
 | 0,_,acc=>acc
 | f+1,n,acc=>bif yM n 10 then (48+n)::acc else ni f (n/10) ((48+n%10)::acc)
def aB (n:Nat):List Nat:=ni (n+1) n []
def aY:Int->List Nat
 | .ofNat n=>aB n
 | .negSucc n=>45::aB (n+1)
def Bs:Int->Bool
 | .ofNat n=>yM n 9223372036854775808
 | .negSucc n=>yM n 9223372036854775808
def JM:List AV->Option AV
 | [.int .i64 n]=>bif Bs n then some (.str (aY n)) else none
 | _=>none
def AT:List AV->Option AV
 | [.int .u64 (.ofNat n),.int .i64 10]=>bif yM n 18446744073709551616 then some (.str (aB n)) else none
 | _=>none
def cQ:List Nat->Nat->Option Nat
 | [],a=>some a
 | b::r,a=>bif yE 48 b&&yE b 57 then cQ r (10*a+(b-48)) else none
def JN:List AV->Option AV
 | [.str s]=>
  bif yM 0 s.length&&yE s.length 18 then
   match cQ s 0 with | some n=>some (.au [.int .i64 n,.undef]) | none=>none
  else none
 | _=>none
def nZ:List AV->Option AV
 | [.int .u64 (.ofNat x),.int .u64 (.ofNat y),.int .u64 (.ofNat c)]=>
  bif yE c 1&&(yM x 18446744073709551616&&yM y 18446744073709551616) then some (.au [.int .u64 ((x+y+c)%18446744073709551616:Nat),.int .u64 ((x+y+c)/18446744073709551616:Nat)]) else none
 | _=>none
def Be:List AV->Option AV
 | [.int .u64 (.ofNat x),.int .u64 (.ofNat y),.int .u64 (.ofNat c)]=>
  bif yE c 1&&(yM x 18446744073709551616&&yM y 18446744073709551616) then some (.au [.int .u64 ((x+18446744073709551616*2-y-c)%18446744073709551616:Nat),.int .u64 (bif yE (y+c) x then 0 else 1)]) else none
 | _=>none
def r9:List AV->Option AV
 | [.int .u64 (.ofNat x),.int .u64 (.ofNat y)]=>bif yM x 18446744073709551616&&yM y 18446744073709551616 then some (.au [.int .u64 (x*y/18446744073709551616:Nat),.int .u64 (x*y%18446744073709551616:Nat)]) else none
 | _=>none
def eO:Nat->Nat->Nat
 | 0,_=>0
 | f+1,n=>bif yv n 0 then 0 else 1+eO f (n/2)
def Jc:List AV->Option AV
 | [.int .u64 (.ofNat x)]=>bif yM x 18446744073709551616 then some (.int .i64 (eO 64 x)) else none
 | _=>none
def FR:List AV->Option AV
 | [.int .u64 (.ofNat x)]=>bif yM x 18446744073709551616 then some (.int .i64 (64-eO 64 x:Nat)) else none
 | _=>none
end
section
open Go
section
variable {O:bt} {n:Nat}
def Iw {w w':yj} (h:RowKit.Below w.heap.size w w'):Calm w w':=⟨h.os,h.tape,h.output,h.size,h.block⟩
def akp {w:yj} (k:Nat):Calm w (w.drewN k):=⟨rfl,rfl,rfl,yr _,fun _ _=>rfl⟩
def akq {w:yj} (h:Bp O w) {a:Addr} {v:yf} (hc:O.w0.cell? a=some v):w.cell? a=some v:=by
 have hb:a.block<O.w0.heap.size:=by
  unfold World.cell? at hc
  cases hq:O.w0.heap[a.block]? with
  | none=>simp [hq] at hc
  | some o=>exact (xv.1 hq).1
 unfold World.cell? at hc ⊢;rw [h.1 _ hb];exact hc
def pg {aq:List AV} {r:AV} (hr:∀S w' lo u,aj O.ai ff S w' r u->og O.ai S w' lo r u)
  (fP:∀args w,(callFunc (O.ai n) args).run O.P w= .ok (.enter (O.ai n) args) w)
  (h:∀w S args,Bp O w->av O.ai ff S w aq args.toList->xR O.P (O.ai n) args w fun e w'=>∃u,e= .returned u/\Calm w w'/\∀S,aj O.ai ff S w' r u):eS O n aq r:=by
 intro w S args hg hS eH _;refine .inl ⟨fP args w,Go.callsIn_wide.2 ((h w S args hg eH).mono ?_)⟩;rintro e w' ⟨u,rfl,hc,hu⟩;exact ⟨u,S,rfl,hc,fun _ h=>h,fun _ h=> .inl h,fun b hb=>yP (hS b hb) hc.size,hr S w' _ u (hu S)⟩
def ZH {aq:List AV} {r:AV} (hr:∀S w' lo u,aj O.ai ff S w' r u->og O.ai S w' lo r u)
  (h:∀w S args,av O.ai ff S w aq args.toList->∃u,(callFunc (O.ai n) args).run O.P w= .ok (.value u) w/\∀S,aj O.ai ff S w r u):eS O n aq r:=by
 intro w S args _ hS eH _;obtain ⟨u,h1,h2⟩:=h w S args eH;exact .inr ⟨u,w,h1,u,S,rfl,Calm.refl,fun _ h=>h,fun _ h=> .inl h,hS,hr S w _ u (h2 S)⟩
def I4 {s:List Nat}:∀S w' lo u,aj O.ai ff S w' (.str s) u->og O.ai S w' lo (.str s) u:=fun S w' lo u h=>⟨[],rfl,h,rfl⟩
def abn {k:IntKind} {z:Int}:∀S w' lo u,aj O.ai ff S w' (.int k z) u->og O.ai S w' lo (.int k z) u:=fun S w' lo u h=>⟨[],rfl,h,rfl⟩
def ami {b:Bool}:∀S w' lo u,aj O.ai ff S w' (.bool b) u->og O.ai S w' lo (.bool b) u:=fun S w' lo u h=>⟨[],rfl,h,rfl⟩
def YU {S:Nat->Prop} {w':yj} {lo:Nat}:∀{vs:List AV} {us:List yf},(∀v,v∈vs->(∀ex sz k cs,v≠.bW ex sz k cs)/\aU v=true)->av O.ai ff S w' vs us->lA O.ai S w' lo vs us []
 | [],us,_,h=>by simp only [av] at h;exact ⟨h,rfl⟩
 | v::vs,us,hv,h=>by
  simp only [av] at h;obtain ⟨u,t,rfl,h1,h2⟩:=h;have h3:=hv v (by simp);refine ⟨u,t,[],[],rfl,rfl,?_,YU (fun v hm=>hv v (by simp [hm])) h2⟩;cases v<;>first | exact ⟨rfl,h1,h3.2⟩ | exact absurd rfl (h3.1 _ _ _ _)
def E8 {vs:List AV} (hv:∀v,v∈vs->(∀ex sz k cs,v≠.bW ex sz k cs)/\aU v=true):∀S w' lo u,aj O.ai ff S w' (.au vs) u->og O.ai S w' lo (.au vs) u:=by
 intro S w' lo u h;obtain ⟨xs,rfl,h⟩:=h;exact ⟨xs,[],rfl,YU hv h,by simp⟩
def Oa {S:Nat->Prop} {w:yj} {a:AV} {args:Array yf} (h:av O.ai ff S w [a] args.toList):∃u,args=#[u]/\aj O.ai ff S w a u:=by
 simp only [av] at h
 grind
def Bt {S:Nat->Prop} {w:yj} {a b:AV} {args:Array yf} (h:av O.ai ff S w [a,b] args.toList):∃u v,args=#[u,v]/\aj O.ai ff S w a u/\aj O.ai ff S w b v:=by
 simp only [av] at h
 grind
def adR {S:Nat->Prop} {w:yj} {a b c:AV} {args:Array yf} (h:av O.ai ff S w [a,b,c] args.toList):∃u v x,args=#[u,v,x]/\aj O.ai ff S w a u/\aj O.ai ff S w b v/\aj O.ai ff S w c x:=by
 simp only [av] at h
 grind
def Ix {S:Nat->Prop} {w:yj} {s:List Nat} {l:List UInt8} (h:l.map y9=s):aj O.ai ff S w (.str s) (.string ⟨l.toArray⟩):=by
 simp only [aj];exact ⟨_,rfl,h⟩
def toNat_inj {a b:UInt8}:yv a.toNat b.toNat=(a==b):=by
 by_cases h:a=b
 ·simp_all
 ·have h':a.toNat≠b.toNat:=fun e=>h (UInt8.toNat_inj.1 e)
  have e:(a==b)=false:=by simp_all
  rw [e]
  cases hq:yv a.toNat b.toNat with
  | false=>rfl
  | true=>exact absurd (yo hq) h'
def IG:∀(p s:List UInt8),gQ (p.map y9) (s.map y9)=p.isPrefixOf s
 | [],s=>by cases s<;>rfl
 | a::p,[]=>rfl
 | a::p,b::s=>by
  simp only [yV,gQ,List.isPrefixOf,IG p s,toNat_inj]
def YV:∀(s sep:List UInt8) (k:Nat),mr (sep.map y9) (s.map y9) k=if 0<=Lib.index s sep then some (k+(Lib.index s sep).toNat) else none
 | [],sep,k=>by
  simp only [List.map_nil,mr,Lib.index]
  cases sep with
  | nil=>simp [gQ]
  | cons a r=>simp [gQ]
 | b::s,sep,k=>by
  have ih:=YV s sep (k+1);have hp:=IG sep (b::s);simp only [yV,mr,hp,Lib.index]
  grind
def aap (b:UInt8):∀cs:List UInt8,F6 b.toNat (cs.map y9)=cs.contains b
 | []=>rfl
 | c::cs=>by
  simp only [yV,F6,aap b cs,List.contains_cons,toNat_inj]
  grind
def R2 (cs:List UInt8):∀l:List UInt8,kZ (cs.map y9) (l.map y9)=(l.dropWhile (cs.contains ·)).map y9
 | []=>rfl
 | b::l=>by
  simp only [yV,kZ,aap,List.dropWhile_cons,R2 cs l]
  grind
def aaq (l:List UInt8):∀n,ig (l.map y9) n=(Lib.repeatL l n).map y9
 | 0=>rfl
 | n+1=>by simp only [ig,Lib.repeatL,xq,aaq l n]
def Yt:∀(f n:Nat) (acc:List Nat),n<f->ni f n acc=(Lib.decDigits n).map y9++acc
 | 0,n,acc,h=>by omega
 | f+1,n,acc,h=>by
  rw [ni,Lib.decDigits];by_cases hn:n<10
  ·rw [show yM n 10=true from yx hn,yz,dif_pos hn]
   have:(yaT (48+n)).toNat=48+n:=by
    rw [tP];omega
   grind
  ·have hb:yM n 10=false:=by
    cases hq:yM n 10 with
    | false=>rfl
    | true=>exact absurd (yu hq) (by omega)
   rw [hb,yO,dif_neg hn,Yt f (n/10) _ (by omega),xq,List.append_assoc]
   have:(yaT (48+n%10)).toNat=48+n%10:=by
    rw [tP];omega
   grind
def Su (n:Nat):aB n=(Lib.decDigits n).map y9:=by
 rw [aB,Yt (n+1) n [] (by omega),List.append_nil]
def amj (n:Int):aY n=(Lib.itoa n).map y9:=by
 cases n with
 | ofNat k=>
  have:¬yas k<0:=by simp
  simp only [aY,Lib.itoa,this,xh,Su];rfl
 | negSucc k=>
  have:Int.negSucc k<0:=Int.negSucc_lt_zero k
  simp only [aY,Lib.itoa,this,xm,Su,yV];rfl
def Sv:∀f x:Nat,eO f x=Lib.bitLenAux f x
 | 0,_=>rfl
 | f+1,x=>by
  rw [eO,Lib.bitLenAux];by_cases h:x=0
  ·simp_all
  ·have hb:yv x 0=false:=by
    cases hq:yv x 0 with
    | false=>rfl
    | true=>exact absurd (yo hq) h
   rw [hb,yO,yA h,Sv f]
def YW:∀{cs:List UInt8},Fl (cs.map y9)=true->∀(j:Nat) b,cs[j]? =some b->b.toNat<128
 | [],_,j,b,h=>by simp at h
 | c::cs,h,j,b,hb=>by
  simp only [yV,Fl,ye] at h
  cases j with
  | zero=>
   simp_all
  | succ j=>exact YW h.2 j b (by simpa using hb)
def pz {a b:Nat} (h:yM a b=true):a<b:=by simp_all
def aar:∀{l:List UInt8} {a z:Nat},cQ (l.map y9) a=some z->Lib.decFrom a l=some z
 | [],a,z,h=>h
 | b::l,a,z,h=>by
  simp only [yV,cQ] at h
  cases hb:(yE 48 b.toNat&&yE b.toNat 57) with
  | false=>rw [hb] at h;cases h
  | true=>
   rw [hb] at h;simp only [ye] at hb;have h1:=yu hb.1;have h2:=yu hb.2
   have:=aar h
   rw [Lib.decFrom,Lib.digitVal,yH ⟨h1,h2⟩]
   grind
def amk {l:List UInt8} {z:Nat} (h:cQ (l.map y9) 0=some z) (h0:0<l.length):Lib.atoi l=some (z:Int):=by
 cases l with
 | nil=>simp at h0
 | cons b r=>
  have hd:=aar h;have hb:48<=b.toNat:=by
   simp only [yV,cQ] at h
   cases hb:(yE 48 b.toNat&&yE b.toNat 57) with
   | false=>rw [hb] at h;cases h
   | true=>
    simp_all
  have h1:(b==45)=false:=by
   have:b≠45:=fun e=>by subst e;exact absurd hb (by decide)
   grind
  have h2:(b==43)=false:=by
   have:b≠43:=fun e=>by subst e;exact absurd hb (by decide)
   grind
  simp only [Lib.atoi,h1,h2,yF,xh,Lib.decNat,List.isEmpty_cons,hd,Option.map_some]
section
variable {f:tF}
def aiq (hf:O.ai n=f) (fP:∀args w,(callFunc f args).run O.P w= .ok (.enter f args) w)
  (hc:∀(s p:ByteArray) (w:yj),xR O.P f #[.string s,.string p] w fun e w'=>e= .returned (.tuple #[.string ⟨(Lib.trimPrefix s.data.toList p.data.toList).toArray⟩,.bool (Lib.hasPrefix s.data.toList p.data.toList)])/\w'=w):
  ∀aq r,MJ aq=some r->eS O n aq r:=by
 intro aq r h;unfold MJ at h
 split at h
 ·rename_i s p;simp only [yc] at h;subst h;refine pg ?_ (by rw [hf];exact fP) ?_
  ·cases gQ p s<;>exact E8 (by simp [aU])
  ·intro w S args hg eH;obtain ⟨u,v,rfl,h1,h2⟩:=Bt eH;obtain ⟨t1,rfl,rfl⟩:=h1;obtain ⟨t2,rfl,rfl⟩:=h2;rw [hf];refine (hc t1 t2 w).mono ?_;rintro e w' ⟨rfl,rfl⟩;refine ⟨_,rfl,Calm.refl,fun S=>?_⟩;rw [IG,yL];unfold Lib.trimPrefix Lib.hasPrefix
   cases hp:t2.data.toList.isPrefixOf t1.data.toList with
   | true=>
    simp only [yz,xm,aj,av]
    simp_all
   | false=>
    simp only [yO,yF,xh,aj,av]
    grind
 ·cases h
def air (hf:O.ai n=f) (fP:∀args w,(callFunc f args).run O.P w= .ok (.enter f args) w)
  (hc:∀(s p:ByteArray) (w:yj),xR O.P f #[.string s,.string p] w fun e w'=>e= .returned (.bool (Lib.hasPrefix s.data.toList p.data.toList))/\w'=w):
  ∀aq r,MK aq=some r->eS O n aq r:=by
 intro aq r h;unfold MK at h
 split at h
 ·rename_i s p;simp only [yc] at h;subst h;refine pg ami (by rw [hf];exact fP) ?_
  intro w S args hg eH;obtain ⟨u,v,rfl,h1,h2⟩:=Bt eH;obtain ⟨t1,rfl,rfl⟩:=h1;obtain ⟨t2,rfl,rfl⟩:=h2;rw [hf];refine (hc t1 t2 w).mono ?_;rintro e w' ⟨rfl,rfl⟩;refine ⟨_,rfl,Calm.refl,fun S=>?_⟩;rw [IG];simp only [aj,Lib.hasPrefix]
 ·cases h
def aim (hf:O.ai n=f) (fP:∀args w,(callFunc f args).run O.P w= .ok (.enter f args) w)
  (hc:∀(s p:ByteArray) (w:yj),xR O.P f #[.string s,.string p] w fun e w'=>e= .returned (.string ⟨(Lib.trimPrefix s.data.toList p.data.toList).toArray⟩)/\w'=w):
  ∀aq r,My aq=some r->eS O n aq r:=by
 intro aq r h;unfold My at h
 split at h
 ·rename_i s p;simp only [yc] at h;subst h;refine pg I4 (by rw [hf];exact fP) ?_
  intro w S args hg eH;obtain ⟨u,v,rfl,h1,h2⟩:=Bt eH;obtain ⟨t1,rfl,rfl⟩:=h1;obtain ⟨t2,rfl,rfl⟩:=h2;rw [hf];refine (hc t1 t2 w).mono ?_;rintro e w' ⟨rfl,rfl⟩;refine ⟨_,rfl,Calm.refl,fun S=>?_⟩;rw [IG,yL];refine Ix ?_;unfold Lib.trimPrefix Lib.hasPrefix
  cases hp:t2.data.toList.isPrefixOf t1.data.toList with
  | true=>simp [List.map_drop]
  | false=>simp
 ·cases h
def aoq (hf:O.ai n=f) (fP:∀args w,(callFunc f args).run O.P w= .ok (.enter f args) w) {a:Addr} {m:Int} (hm:O.w0.cell? a=some (.int .i64 m))
  (hc:∀(s sep:ByteArray) (w:yj),s.size<4294967281->w.cell? a=some (.int .i64 m)->xR O.P f #[.string s,.string sep] w fun e w'=>e= .returned (.tuple #[.string ⟨(Lib.cut s.data.toList sep.data.toList).1.toArray⟩,.string ⟨(Lib.cut s.data.toList sep.data.toList).2.1.toArray⟩,.bool (Lib.cut s.data.toList sep.data.toList).2.2])/\∃n,w'=w.drewN n):
  ∀aq r,OM aq=some r->eS O n aq r:=by
 intro aq r h;unfold OM at h
 split at h
 ·rename_i s sep
  cases hb:yM s.length 4294967281 with
  | false=>rw [hb] at h;cases h
  | true=>
   rw [hb] at h;have key:∀(q:List UInt8×List UInt8×Bool),(∀t1 t2:ByteArray,t1.data.toList.map y9=s->t2.data.toList.map y9=sep->r= .au [.str ((Lib.cut t1.data.toList t2.data.toList).1.map y9),.str ((Lib.cut t1.data.toList t2.data.toList).2.1.map y9),.bool (Lib.cut t1.data.toList t2.data.toList).2.2])->
     (∃a b c,r= .au [.str a,.str b,.bool c])->eS O n [.str s,.str sep] r:=by
    intro q hq aqH;obtain ⟨a',b',c',rfl⟩:=aqH;refine pg (E8 (by simp [aU])) (by rw [hf];exact fP) ?_
    intro w S args hg eH;obtain ⟨u,v,rfl,h1,h2⟩:=Bt eH;obtain ⟨t1,rfl,e1⟩:=h1;obtain ⟨t2,rfl,e2⟩:=h2;rw [hf];have hl:t1.size<4294967281:=by
     have:=pz hb
     rw [<-e1,yL] at this
     simp_all
    refine (hc t1 t2 w hl (akq hg hm)).mono ?_;rintro e w' ⟨rfl,k,rfl⟩;refine ⟨_,rfl,akp k,fun S=>?_⟩;simp only [aj,av]
    grind
   refine key ([],[],false) ?_ ?_
   ·intro t1 t2 e1 e2;subst e1;subst e2;rw [YV] at h;unfold Lib.cut;by_cases h0:0<=Lib.index t1.data.toList t2.data.toList
    ·simp_all
    ·grind
   ·grind
 ·cases h
def aml (hf:O.ai n=f) (fP:∀args w,(callFunc f args).run O.P w= .ok (.enter f args) w)
  (hc:∀(s cs:ByteArray) (w:yj),s.size<=9223372036854775807->cs.size<4294967281->(∀(j:Nat) b,cs.data.toList[j]? =some b->b.toNat<128)->xR O.P f #[.string s,.string cs] w fun e w'=>e= .returned (.string ⟨(Lib.trimS s.data.toList cs.data.toList).toArray⟩)/\RowKit.Below w.heap.size w w'):
  ∀aq r,trimS aq=some r->eS O n aq r:=by
 intro aq r h;unfold trimS at h
 split at h
 ·rename_i s cs
  cases hb:(Fl cs&&(yM s.length 4294967281&&yM cs.length 4294967281)) with
  | false=>rw [hb] at h;cases h
  | true=>
   rw [hb] at h;simp only [yz,yc] at h;subst h;simp only [ye] at hb;refine pg I4 (by rw [hf];exact fP) ?_
   intro w S args hg eH;obtain ⟨u,v,rfl,h1,h2⟩:=Bt eH;obtain ⟨t1,rfl,rfl⟩:=h1;obtain ⟨t2,rfl,rfl⟩:=h2;have nM:=pz hb.2.1;have sX:=pz hb.2.2;rw [yL] at nM sX;rw [hf];refine (hc t1 t2 w (by rw [Lib.size_eq];omega) (by rw [Lib.size_eq];omega) (YW hb.1)).mono ?_;rintro e w' ⟨rfl,hw⟩;refine ⟨_,rfl,Iw hw,fun S=>Ix ?_⟩;simp only [Lib.trimS,Lib.trimLeftS,Lib.trimRightS];rw [<-th,R2,<-th,R2]
 ·cases h
def ajm (hf:O.ai n=f) (fP:∀args w,(callFunc f args).run O.P w= .ok (.enter f args) w)
  (hc:∀(s:ByteArray) (c:Nat) (w:yj),c<=9223372036854775807->s.size*c<=140737488355328->xR O.P f #[.string s,.int .i64 c] w fun e w'=>e= .returned (.string ⟨(Lib.repeatL s.data.toList c).toArray⟩)/\RowKit.Below w.heap.size w w'):
  ∀aq r,Ba aq=some r->eS O n aq r:=by
 intro aq r h;unfold Ba at h
 split at h
 ·rename_i s c
  cases hb:(yE c 1099511627776&&yE (s.length*c) 1099511627776) with
  | false=>rw [hb] at h;cases h
  | true=>
   rw [hb] at h;simp only [yz,yc] at h;subst h;simp only [ye] at hb;have l1:=yu hb.1;have l2:=yu hb.2;refine pg I4 (by rw [hf];exact fP) ?_
   intro w S args hg eH;obtain ⟨u,v,rfl,h1,h2⟩:=Bt eH;obtain ⟨t1,rfl,rfl⟩:=h1;subst h2;rw [hf];rw [yL] at l2;refine (hc t1 c w (by omega) (by rw [Lib.size_eq];omega)).mono ?_;rintro e w' ⟨rfl,hw⟩;exact ⟨_,rfl,Iw hw,fun S=>Ix (aaq _ _).symm⟩
 ·cases h
def amm (hf:O.ai n=f) (fP:∀args w,(callFunc f args).run O.P w= .ok (.enter f args) w)
  (hc:∀(z:Int) (w:yj),-9223372036854775808<=z->z<=9223372036854775807->Bp O w->xR O.P f #[.int .i64 z] w fun e w'=>e= .returned (.string ⟨(Lib.itoa z).toArray⟩)/\Calm w w'):
  ∀aq r,JM aq=some r->eS O n aq r:=by
 intro aq r h;unfold JM at h
 split at h
 ·rename_i z
  cases hb:Bs z with
  | false=>rw [hb] at h;cases h
  | true=>
   rw [hb] at h;simp only [yz,yc] at h;subst h;have hz: -9223372036854775808<=z/\z<=9223372036854775807:=by
    cases z with
    | ofNat k=>have:=pz hb;show -9223372036854775808<=(k:Int)/\(k:Int)<=9223372036854775807;omega
    | negSucc k=>have:=pz hb;omega
   refine pg I4 (by rw [hf];exact fP) ?_
   intro w S args hg eH;obtain ⟨u,rfl,h1⟩:=Oa eH;subst h1;rw [hf];refine (hc z w hz.1 hz.2 hg).mono ?_;rintro e w' ⟨rfl,hw⟩;exact ⟨_,rfl,hw,fun S=>Ix (amj z).symm⟩
 ·cases h
def ain (hf:O.ai n=f) (fP:∀args w,(callFunc f args).run O.P w= .ok (.enter f args) w)
  (hc:∀(z:Nat) (w:yj),z<18446744073709551616->Bp O w->xR O.P f #[.int .u64 z,.int .i64 10] w fun e w'=>e= .returned (.string ⟨(Lib.decDigits z).toArray⟩)/\Calm w w'):
  ∀aq r,AT aq=some r->eS O n aq r:=by
 intro aq r h;unfold AT at h
 split at h
 ·rename_i z
  cases hb:yM z 18446744073709551616 with
  | false=>rw [hb] at h;cases h
  | true=>
   rw [hb] at h;simp only [yz,yc] at h;subst h;refine pg I4 (by rw [hf];exact fP) ?_
   intro w S args hg eH;obtain ⟨u,v,rfl,h1,h2⟩:=Bt eH;subst h1;subst h2;rw [hf];refine (hc z w (pz hb) hg).mono ?_;rintro e w' ⟨rfl,hw⟩;exact ⟨_,rfl,hw,fun S=>Ix (Su z).symm⟩
 ·cases h
def amn (hf:O.ai n=f) (fP:∀args w,(callFunc f args).run O.P w= .ok (.enter f args) w)
  (hc:∀(s:ByteArray) (z:Int) (w:yj),s.size<=18->Lib.atoi s.data.toList=some z->xR O.P f #[.string s] w fun e w'=>e= .returned (.tuple #[.int .i64 z,.nilIface])/\Calm w w'):
  ∀aq r,JN aq=some r->eS O n aq r:=by
 intro aq r h;unfold JN at h
 split at h
 ·rename_i s
  cases hb:(yM 0 s.length&&yE s.length 18) with
  | false=>rw [hb] at h;cases h
  | true=>
   rw [hb] at h;simp only [yz] at h;simp only [ye] at hb;have l1:=pz hb.1;have l2:=yu hb.2
   split at h
   ·rename_i z hz;simp only [yc] at h;subst h;refine pg (E8 (by simp [aU])) (by rw [hf];exact fP) ?_
    intro w S args hg eH;obtain ⟨u,rfl,h1⟩:=Oa eH;obtain ⟨t1,rfl,rfl⟩:=h1;rw [yL] at l1 l2;have ha:Lib.atoi t1.data.toList=some (z:Int):=amk hz l1;rw [hf];refine (hc t1 z w (by rw [Lib.size_eq];exact l2) ha).mono ?_
    simp only [aj,av]
    grind
   ·cases h
 ·cases h
def akr (hf:O.ai n=f) (fP:∀args w,(callFunc f args).run O.P w= .ok (.enter f args) w)
  (hc:∀(x y:Nat) (w:yj),x<18446744073709551616->y<18446744073709551616->xR O.P f #[.int .u64 x,.int .u64 y] w fun e w'=>e= .returned (.tuple #[.int .u64 ((x*y/18446744073709551616:Nat):Int),.int .u64 ((x*y%18446744073709551616:Nat):Int)])/\w'=w):
  ∀aq r,r9 aq=some r->eS O n aq r:=by
 intro aq r h;unfold r9 at h
 split at h
 ·rename_i x y
  cases hb:(yM x 18446744073709551616&&yM y 18446744073709551616) with
  | false=>rw [hb] at h;cases h
  | true=>
   rw [hb] at h;simp only [yz,yc] at h;subst h;simp only [ye] at hb;refine pg (E8 (by simp [aU])) (by rw [hf];exact fP) ?_
   intro w S args hg eH;obtain ⟨u,v,rfl,h1,h2⟩:=Bt eH;subst h1;subst h2;rw [hf];refine (hc x y w (pz hb.1) (pz hb.2)).mono ?_;rintro e w' ⟨rfl,rfl⟩;refine ⟨_,rfl,Calm.refl,fun S=>?_⟩;simp only [aj,av]
   grind
 ·cases h
def aks (hf:O.ai n=f) (fP:∀args w,(callFunc f args).run O.P w= .ok (.enter f args) w)
  (hc:∀(x:Int) (w:yj),0<=x->x<=18446744073709551615->xR O.P f #[.int .u64 x] w fun e w'=>e= .returned (.int .i64 (Lib.bitLen x.toNat:Nat))/\w'=w):
  ∀aq r,Jc aq=some r->eS O n aq r:=by
 intro aq r h;unfold Jc at h
 split at h
 ·rename_i x
  cases hb:yM x 18446744073709551616 with
  | false=>rw [hb] at h;cases h
  | true=>
   rw [hb] at h;simp only [yz,yc] at h;subst h
   have:=pz hb
   refine pg abn (by rw [hf];exact fP) ?_
   intro w S args hg eH;obtain ⟨u,rfl,h1⟩:=Oa eH;subst h1;rw [hf];refine (hc (yas x) w (ta x) (by show (x:Int)<=_;omega)).mono ?_;rintro e w' ⟨rfl,rfl⟩;refine ⟨_,rfl,Calm.refl,fun S=>?_⟩;rw [Sv];rfl
 ·cases h
def amo (hf:O.ai n=f) (fP:∀args w,(callFunc f args).run O.P w= .ok (.enter f args) w)
  (hc:∀(x:Int) (w:yj),0<=x->x<=18446744073709551615->xR O.P f #[.int .u64 x] w fun e w'=>e= .returned (.int .i64 (64-(Lib.bitLen x.toNat:Nat)))/\w'=w):
  ∀aq r,FR aq=some r->eS O n aq r:=by
 intro aq r h;unfold FR at h
 split at h
 ·rename_i x
  cases hb:yM x 18446744073709551616 with
  | false=>rw [hb] at h;cases h
  | true=>
   rw [hb] at h;simp only [yz,yc] at h;subst h
   have:=pz hb
   have hle:∀f x,Lib.bitLenAux f x<=f:=by
    intro f
    induction f with
    | zero=>intro x;exact yr _
    | succ f ih=>
     intro x;rw [Lib.bitLenAux]
     grind
   refine pg abn (by rw [hf];exact fP) ?_
   intro w S args hg eH;obtain ⟨u,rfl,h1⟩:=Oa eH;subst h1;rw [hf];refine (hc (yas x) w (ta x) (by show (x:Int)<=_;omega)).mono ?_;rintro e w' ⟨rfl,rfl⟩;refine ⟨_,rfl,Calm.refl,fun S=>?_⟩;simp only [aj,Sv];show Value.int .i64 (64-(Lib.bitLenAux 64 x:Int))=Value.int .i64 ((64-Lib.bitLenAux 64 x:Nat):Int)
   grind
 ·cases h
def akt (hf:O.ai n=f)
  (hc:∀(x y c:Nat) (w:yj),c<=1->(callFunc f #[.int .u64 x,.int .u64 y,.int .u64 c]).run O.P w= .ok (.value (.tuple #[.int .u64 (((x+y+c)%18446744073709551616:Nat):Int),.int .u64 (((x+y+c)/18446744073709551616:Nat):Int)])) w):
  ∀aq r,nZ aq=some r->eS O n aq r:=by
 intro aq r h;unfold nZ at h
 split at h
 ·rename_i x y c
  cases hb:(yE c 1&&(yM x 18446744073709551616&&yM y 18446744073709551616)) with
  | false=>rw [hb] at h;cases h
  | true=>
   rw [hb] at h;simp only [yz,yc] at h;subst h;simp only [ye] at hb;refine ZH (E8 (by simp [aU])) ?_;intro w S args eH;obtain ⟨u,v,z,rfl,h1,h2,h3⟩:=adR eH;subst h1;subst h2;subst h3;rw [hf];refine ⟨_,hc x y c w (yu hb.1),fun S=>?_⟩;simp only [aj,av]
   grind
 ·cases h
def aku (hf:O.ai n=f)
  (hc:∀(x y b:Nat) (w:yj),b<=1->(callFunc f #[.int .u64 x,.int .u64 y,.int .u64 b]).run O.P w= .ok (.value (.tuple #[.int .u64 (((x+18446744073709551616-y-b)%18446744073709551616:Nat):Int),.int .u64 ((if x<y+b then 1 else 0:Nat):Int)])) w):
  ∀aq r,Be aq=some r->eS O n aq r:=by
 intro aq r h;unfold Be at h
 split at h
 ·rename_i x y c
  cases hb:(yE c 1&&(yM x 18446744073709551616&&yM y 18446744073709551616)) with
  | false=>rw [hb] at h;cases h
  | true=>
   rw [hb] at h;simp only [yz,yc] at h;subst h;simp only [ye] at hb;have ez:=yu hb.1;have hy:=pz hb.2.2;refine ZH (E8 (by simp [aU])) ?_;intro w S args eH;obtain ⟨u,v,z,rfl,h1,h2,h3⟩:=adR eH;subst h1;subst h2;subst h3;rw [hf];refine ⟨_,hc x y c w ez,fun S=>?_⟩;simp only [aj,av];refine ⟨_,rfl,_,_,rfl,?_,_,_,rfl,?_,rfl⟩
   ·grind
   ·congr 1
    by_cases h:x<y+c
    ·have:yE (y+c) x=false:=by
      cases hq:yE (y+c) x with
      | false=>rfl
      | true=>have:=yu hq;omega
     grind
    ·rw [yx (by omega),yA h];rfl
 ·cases h
end
end
end
end VE
