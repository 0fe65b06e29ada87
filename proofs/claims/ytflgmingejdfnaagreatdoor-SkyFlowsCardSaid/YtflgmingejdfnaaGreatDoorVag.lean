import Derived.LoopNIn
import Derived.RangeFuncIn
import Derived.Test.YtflgmingejdfnaaGreatDoorVaf
import Derived.Test.YtflgmingejdfnaaGreatDoorVaa
set_option linter.all false
set_option maxRecDepth 100000
open Array renaming getD_eq_getD_getElem?→wT,getElem?_eq_some_iff→xz,replicate→vE
open Bool renaming and_eq_true→yf
open Go renaming Code→wI,Deferred→ybz,Exit→uI,Func→tn,FuncId→tJ,LeavesInM→ybH,Loop→uf,Oper→yY,Program→y5,ResultVar→ybF,Value→ye,World→yh
open List renaming mapM_cons→vM
open Nat renaming beq→yr,eq_of_beq_eq_true→yo,le_refl→yD,le_trans→xi,zero_add→yd,zero_le→tC
open Option.some renaming injEq→yc
open Prod.mk renaming injEq→yk
namespace VE
section
open Go
def aix {F:Fence} {n:Nat} {P:y5} {Q:uI->Act->yh->Prop} {a:Act} {w:yh} {c:wI} (h:c.wpIn F n P Q a w) (hg:∀l a w,¬Q (.goto l) a w):(Code.scope c).wpIn F n P Q a w:=by
 intro b k cs da hb hr;have h0:(lone (b.atR a (.code (.scope c)::k)) cs w).fenced P F:=fenced_calm hb hr rfl;have s0:step P (lone (b.atR a (.code (.scope c)::k)) cs w)= .next (lone (b.atR a (.code c:: .inScope c::k)) cs w):=step_lone_go (by simp [stepG,stepG.exec,Frame.atR]);obtain ⟨e,a₁,w₁,hq,CI⟩:=h b (.inScope c::k) cs da hb hr;have hx:∀id,exitTo id (.inScope c::k)=exitTo id k:=fun id=>by simp [exitTo]
 cases e with
 | normal=>
  have s1:step P (lone (b.atR a₁ (.inScope c::k)) cs w₁)= .next (lone (b.atR a₁ k) cs w₁):=step_lone_go (by simp [stepG,stepG.exec,Frame.atR]);exact ⟨.normal,a₁,w₁,hq,.head h0 s0 (StepsIn.trans CI (.one (fenced_calm hb hr rfl) s1))⟩
 | exit id=>
  exact ⟨.exit id,a₁,w₁,hq,fun k' hk=> .head h0 s0 (CI.1 k' (by rw [hx];exact hk)),fun bX hk=>let ⟨k₁,h1,h2⟩:=CI.2 bX (by rw [hx];exact hk);⟨k₁,h1,.head h0 s0 h2⟩⟩
 | goto l=>exact (hg _ _ _ hq).elim
 | ret=>exact ⟨_,a₁,w₁,hq,.of_steps (.one h0 s0) CI⟩
 | panic ch=>exact ⟨_,a₁,w₁,hq,.of_steps (.one h0 s0) CI⟩
 | outgrown=>exact ⟨_,a₁,w₁,hq,.of_steps (.one h0 s0) CI⟩
def pX:Ex->uI
 | .normal=> .normal
 | .ret=> .ret
 | .exit id=> .exit id
def Marks (lo:Nat) (S:Nat->Prop) (w:yh) (ds:List ybz):Prop:=∃rs:List Nat,ds=rs.map (fun r=>{target:= .collected r,args:=#[]})/\rs.Nodup/\
 ∀r,r∈rs->w.heap[r]? =some (.deferred (some []))/\¬S r/\lo<=r
def sW (ro:Option Nat) (w:yh):Prop:=∀l,ro=some l->∃r:uf,w.heap[l]? =some (.loop r)
section
variable {O:bw} {m:Mp} {S:Nat->Prop} {w:yh} {hp:Hp} {ct:Nat}
def ZG (hh:aZ O m S w hp ct) {b:Nat} (h:ej m hp b):∀x,w.heap[b]?≠some (.deferred x):=by
 intro x hx;obtain ⟨id,o,p,h1,h2,rfl⟩:=h;have h3:=hh.obj id o p h1 h2
 cases o with
 | cells rw pu ex sz cs=>obtain ⟨q,arr,t,g1,g2,_⟩:=h3;rw [h2] at g1;injection g1 with g1;subst g1;rw [hx] at g2;cases g2
 | mp rw ks vs=>obtain ⟨q,es,clock,g1,g2,_⟩:=h3;rw [h2] at g1;injection g1 with g1;subst g1;rw [hx] at g2;cases g2
 | si s pos=>obtain ⟨q,t,g1,g2,_⟩:=h3;rw [h2] at g1;injection g1 with g1;subst g1;rw [hx] at g2;cases g2
 | lp tm ps as_ body st pe=>obtain ⟨q,l,hi,g1,g2,_⟩:=h3;rw [h2] at g1;injection g1 with g1;subst g1;rw [hx] at g2;cases g2
def Az (hh:aZ O m S w hp ct) {m':Mp} {S':Nat->Prop} {w':yh} {ao:Hp} {base lo:Nat} (hf:cu m S w hp m' S' w' ao base) {ds:List ybz} (h:Marks lo S w ds):Marks lo S' w' ds:=by
 obtain ⟨rs,h1,h2,h3⟩:=h;refine ⟨rs,h1,h2,fun r hr=>?_⟩;obtain ⟨this,h4,h5⟩:=h3 r hr;have bi:=(xz.1 this).1;have nV:¬ej m hp r:=fun ho=>ZG hh ho _ this
 refine ⟨(hf.same r bi nV).trans this,fun hs=>?_,h5⟩;rcases hf.new r hs with h | h | h
 ·grind
 ·grind
 ·omega
def K5 {m':Mp} {S':Nat->Prop} {w':yh} {ao:Hp} {base:Nat} {ro:Option Nat} (hf:cu m S w hp m' S' w' ao base) (h:sW ro w):sW ro w':=fun l hl=>
 let ⟨r,hr⟩:=h l hl
 hf.loops l r hr
def eP (O:bw) (m:Mp) (S:Nat->Prop) (w:yh) (s:St) (ex:Ex) (s':St) (n lo:Nat) (e:uI) (a':Act) (w':yh):Prop:=
 e=pX ex/\∃m' S',cp O m' S' w' s'.tm a'.tmps/\aZ O m' S' w' s'.hp s'.ct/\s'.base=s.base/\s.base<=s'.ct/\cu m S w s.hp m' S' w' s'.hp s.base/\a'.tmps.size=n/\Marks lo S' w' a'.defers
def A1 (O:bw) (h:Nat) (c:wI) (s:St) (ex:Ex) (s':St):Prop:=
 ∀(ro:Option Nat) (lo:Nat) (m:Mp) (S:Nat->Prop) (w:yh) (a:Act),sW ro w->cp O m S w s.tm a.tmps->aZ O m S w s.hp s.ct->s.base<=s.ct->(O.hint h).n<=a.tmps.size->O.w0.heap.size<=lo->lo<=w.heap.size->Marks lo S w a.defers->
  c.wpIn (WF ro) 0 O.P (eP O m S w s ex s' a.tmps.size lo) a w
structure eH (O:bw):Prop where
 hint:∀h,fF O (O.hint h)
 mixed:O.P.follows .mixedOrders=true
 prog:∀n F,O.prog n=some F->∃fn,O.P.funcs[O.ah n]? =some fn/\D6 O.P (O.hint n) fn=some F/\fn.name≠ "runtime.NumGoroutine"
 aU:∀n sp vals r,O.aU.pure n=some sp->sp vals=some r->eN O n vals r
 EH:∀n sp hp ct vals v ao bh,O.aU.heap n=some sp->sp hp ct vals=some (v,ao,bh)->A0 O n hp ct vals v ao bh
def Lr {P:y5} {H:Hint} {ops:Array yY}:∀(rs:List bl) (l:List yY) (done:List bl) (ms:List Nat),mO P H ops rs l->mO P H ops (zd done rs ms) l
 | [],l,done,ms,h=>by
  cases ms<;>simpa only [zd] using h
 | r::rs,[],done,ms,h=>by simp [mO] at h
 | r::rs,o::l,done,[],h=>by
  obtain ⟨d,g,op⟩:=r;cases op<;>simpa only [zd] using h
 | r::rs,o::l,done,m::ms,h=>by
  obtain ⟨h1,h2⟩:=h;obtain ⟨d,g,op⟩:=r
  cases op with
  | gY Oi f xs=>
   refine ⟨?_,Lr rs l _ ms h2⟩;rcases h1 with h1 | ⟨_,h1⟩
   ·refine .inl ⟨?_,h1.dst,h1.ok,h1.guard⟩;obtain ⟨c,f',g1,g2,g3,g4⟩:=Qu h1.op;rw [g3,g4];exact .inr (.inl ⟨c,f',_,g1,g2,rfl⟩)
   ·simp [bad] at h1
  | st sz x y=>
   refine ⟨?_,Lr rs l _ ms h2⟩;rcases h1 with h1 | ⟨_,h1⟩
   ·refine .inl ⟨?_,h1.dst,h1.ok,h1.guard⟩;unfold stOp
    split
    ·exact h1.op
    ·obtain ⟨t,x',y',g1,g2,g3,g4⟩:=asp h1.op;exact .inr (.inr ⟨t,x',y',sz,_,g1,g2,by rw [g3,g4]⟩)
   ·simp [bad] at h1
  | _=>
   exact ⟨h1,Lr rs l _ ms h2⟩
end
section
variable {O:bw} {self:cJ}
def ZH {P:y5} {H:Hint} {ops:Array yY}:∀{rs:List bl} {l:List yY},mO P H ops rs l->rs.length=l.length/\∀(i:Nat) (r:bl) (o:yY),rs[i]? =some r->l[i]? =some o->Ms P H ops r o\/(r.guard=none/\r.op=bad)
 | [],[],_=>⟨rfl,fun i r o h=>by simp at h⟩
 | [],_::_,h=>by simp [mO] at h
 | _::_,[],h=>by simp [mO] at h
 | r::rs,o::l,h=>by
  obtain ⟨h1,h2⟩:=ZH h.2;refine ⟨by simp [h1],fun i r' o' hr ho=>?_⟩
  cases i with
  | zero=>simp at hr ho;subst hr;subst ho;exact h.1
  | succ i=>exact h2 i r' o' (by simpa using hr) (by simpa using ho)
def ajH {m:Mp} {S:Nat->Prop} {w:yh} {hp:Hp} {ct:Nat} (hh:aZ O m S w hp ct):Calm w {w with drawn:=w.drawn+1}:=⟨rfl,rfl,rfl,yD _,fun _ _=>rfl⟩
def ap5 (hO:eH O) (hC:nv O self) (h:Nat) (id:Nat) (ops:Array yY) (draw:Bool) (k:Nat) {s s':St} (hv:dP O.prog O.aU self (LI O.P (O.hint h) ops draw k).1 s=some s'):A1 O h (.region id ops draw) s .normal s':=by
 intro ro lo m S w a da ht hh hb hn bn fj cQ;unfold LI at hv;have Om:=XS (P:=O.P) (H:=O.hint h) (ops:=ops) ops.toList k;generalize hq:Cg O.P (O.hint h) ops ops.toList k=q at hv Om;obtain ⟨l,k'⟩:=q;simp only at hv Om;have post:∀{a':Act} {m':Mp} {S':Nat->Prop} {w':yh},aZ O m' S' w' s'.hp s'.ct->s.ct<=s'.ct->cp O m' S' w' s'.tm a'.tmps->cu m S w s.hp m' S' w' s'.hp s.ct->a'.tmps.size=a.tmps.size->a'.defers=a.defers->s'.base=s.base->eP O m S w s .normal s' a.tmps.size lo .normal a' w':=by
  intro a' m' S' w' h1 h2 h3 h4 h5 h6 h7;exact ⟨rfl,m',S',h3,h1,h7,by omega,h4.ru hb,h5,by rw [h6];exact Az hh h4 cQ⟩
 cases draw with
 | false=>
  simp only [yB] at hv;refine wpIn_region ?_;rw [List.range_eq_range'];have hl:ops.size=ops.toList.length:=by simp
  rw [hl];exact aaH hC (hO.hint h) ops.toList l 0 s s' a m S w (fun j=>by simp) Om hv ht hh hn (fun a' m' S' w' h1 h2 h3 h4 h5 h6 h7=>post h1 h2 h3 h4 h5 h6 h7)
 | true=>
  simp only [ym] at hv
  cases qt:(He ops.toList 0&&DW [] (zd [] l (mh [] ops.toList)) (mh [] ops.toList)) with
  | false=>
   rw [qt] at hv;simp [dP,bad,bt,dC,az] at hv
  | true=>
   rw [qt] at hv;simp only [ym] at hv;simp only [yf] at qt;have aeZ:=Lr l ops.toList [] (mh [] ops.toList) Om;generalize zd [] l (mh [] ops.toList)=rs at hv qt aeZ;obtain ⟨hlen,ap⟩:=ZH aeZ;obtain ⟨ck,bP,bL,vF,hR,e1,e2,e3,e4,e5,e6,e7⟩:=aaI hv;have hG:rm O (O.hint h) self ops rs ck bP bL vF:=by
    refine ⟨hR,by rw [hlen];simp,fun i r o hr ho=>?_,fun i j x y Uz hx hy=>?_,fun i o ho e he hbd=>?_⟩
    ·rcases ap i r o hr (by simpa using ho) with g | ⟨g1,g2⟩
     ·grind
     ·have:=hR.step i r hr
      simp [eT,g1,oI,g2,bad,bt,dC,az] at this
    ·obtain ⟨mm,g1,g2⟩:=Xa (done:=[]) (i:=i) (j:=j) (a:=x) (b:=y) qt.2 (by simpa using hx) hy (by simpa using Uz);refine g2.imp (fun g=>?_) (fun g=>by simpa using g);unfold Ord
     grind
    ·have:=W2 qt.1 (j:=i) (o:=o) (by simpa using ho) e he hbd
     omega
   refine wpIn_region_any hO.mixed ?_;have Ix:=ajH hh;have iM:=DO hh Ix (S':=S) (fun _ h=>h) (fun _ h=> .inl h) hh.slt
   have Dd:cu m S w s.hp m S {w with drawn:=w.drawn+1} s.hp (bL 0):=Cc hh Ix (fun _ h=>h) (fun _ h=> .inl h);obtain ⟨c,c1,c2,c3,c4⟩:=RA rs rs.length 0 (by omega);have hg:∀k',k'<=c->il (bP 0) (bL 0) (bP (0+k')) (bL (0+k')):=fun k' pk=>
    K3 hR (by rw [e2,e3];exact hh.bi) k' (by omega) (fun j r g1 g2 hr=>HF hr (c3 j g1 (by omega)))
   have ib:=hg c (yD _);rw [yd] at ib;obtain ⟨S1,g1,g2,g3,g4⟩:=Lm (by rw [e2,e3];exact iM:aZ O m S {w with drawn:=w.drawn+1} (bP 0) (bL 0)) ib
   have rk:∀i,(vE ops.size false).getD i false=true->False:=fun i hi=>by
    simp only [wT] at hi
    grind
   refine ap4 (m0:=m) (S0:=S) (w0:=w) (n0:=a.tmps.size) (d0:=a.defers) hC (hO.hint h) hG hn (fun a' m' S' w' h1 h2 h3 h4 h5 h6=>?_) ops.size _ 0 c m S1 _ a (by simp) ?_ (fun j o _ hj=>(rk j hj).elim) ?_
   ·rw [e5,e6] at h1;rw [e3,e6] at h2;rw [e4] at h3;rw [e2,e3,e5] at h4;exact post h1 h2 h3 h4 h5 h6 e7
   ·unfold left;rw [List.countP_eq_length.2]
    ·simp
    ·intro i hi;simp only [Bool.not_eq_true']
     cases hq:(vE ops.size false).getD i false with
     | false=>rfl
     | true=>exact (rk i hq).elim
   ·refine ⟨tC _,c2,fun i hi=>by omega,c3,c4.imp (fun h=>h) (fun h=>⟨h,fun hd=>rk c hd⟩),fun i r _ _ _ hd=>rk i hd,g1,fun id p hp=> .inl (by rw [e3];exact hh.lt id p hp),fun t=>⟨0,tC _,fun i r _ _=>⟨fun hd=>(rk i hd).elim,fun h=>by omega⟩,?_⟩,?_,ib.pq,rfl,rfl,.inl rfl,fun j hj=>?_⟩
    ·rw [e1];exact lX (fun _ _ h=>h) (fun b hb=>g2 b hb) (fun b hb=>Ix.same b (hh.slt b hb)) _ _ (ht t)
    ·rw [e2];have g5:=g4 (bL 0);rw [e2] at g5;exact Dd.trans g5
    ·have:=(hg j hj).lt
     rw [yd] at this;exact this
end
end
section
open Go
section
variable {O:bw} {m:Mp} {S:Nat->Prop} {w:yh} {hp:Hp} {ct:Nat}
def XV (hh:aZ O m S w hp ct) {g:Nat} {w':yh} (hw:One w w' g) (hg:¬S g) (ho:¬ej m hp g) (bn:O.w0.heap.size<=g):aZ O m S w' hp ct:=by
 have bf:fO S w w':=fun b hb=>hw.other b (fun e=>hg (e▸hb))
 refine ⟨fun id o p h1 h2=>?_,hh.lt,hh.inj,fun b hb=>by rw [hw.size];exact hh.slt b hb,fun id p h=>by rw [hw.size];exact hh.blt id p h,hh.low,fun b hb=>?_,by rw [hw.size];exact hh.fP,hh.bi⟩
 ·exact qP (fun _ _ h=>h) (fun _ h=>h) bf (fun q hq=>hw.other _ (fun e=>ho ⟨id,o,q,h1,hq,e⟩)) (fun _ _ h=>h) (hh.obj id o p h1 h2)
 ·rw [hw.other b (by omega)];exact hh.lE b hb
def XW {P:y5} {b:Nat} {o:Go.Obj} (h:w.heap[b]? =some o) (hc:∀c t f,o≠.cells c t f):(getObj b).run P w= .ok o w:=by
 simp only [getObj,Sem.run,h]
def KR {P:y5} {b:Nat} {o x:Go.Obj} (h:w.heap[b]? =some o) (hc:∀c t f,o≠.cells c t f):(setObj b x).run P w= .ok () {w with heap:=w.heap.setIfInBounds b x}:=by
 simp only [setObj,Sem.run,h]
def G5 {P:y5} {b:Nat} {r:uf} (h:w.heap[b]? =some (.loop r)):(Instr.getLoop b).run P w= .ok r w:=by
 simp only [Instr.getLoop,Sem.run_bind,XW (P:=P) h (fun _ _ _=>by simp),Result.andThen_ok,Sem.run_pure]
def HG (hh:aZ O m S w hp ct) {l:Nat} {tm:Env} {ps:List Nat} {as_ body:VC} {st:Nat} {pe:rq} {p:Pl} (hg:ap hp l=some (.lp tm ps as_ body st pe)) (hm:m l=some p):
  ∃(r:uf) (h:Nat),w.heap[p.b]? =some (.loop r)/\¬S p.b/\r.state=Bb st/\st<=2/\r.pending=sU pe/\cp O m S w tm r.tmps/\r.params.toList=ps/\BA O.P (O.hint h) as_ r.assign/\BA O.P (O.hint h) body r.body/\
   (O.hint h).n<=r.tmps.size/\ze (O.hint h).n ps=true:=by
 obtain ⟨q,r,h,g1,g2,g3⟩:=hh.obj l _ p hg hm
 grind
def YJ (hh:aZ O m S w hp ct) {l:Nat} {tm:Env} {ps:List Nat} {as_ body:VC} {st:Nat} {pe:rq} {p:Pl} (hg:ap hp l=some (.lp tm ps as_ body st pe)) (hm:m l=some p) {r:uf} (hr:w.heap[p.b]? =some (.loop r))
  {st':Nat} {pe':rq} (h2:st'<=2):
  aZ O m S {w with heap:=w.heap.setIfInBounds p.b (.loop {r with state:=Bb st',pending:=sU pe'})} (aY hp l (.lp tm ps as_ body st' pe')) ct/\
  cu m S w hp m S {w with heap:=w.heap.setIfInBounds p.b (.loop {r with state:=Bb st',pending:=sU pe'})} (aY hp l (.lp tm ps as_ body st' pe')) ct:=by
 obtain ⟨r',h,g1,g2,g3,g4,g5,g6,g7,g8,g9,g10,g11⟩:=HG hh hg hm;rw [hr] at g1;injection g1 with g1
 injection g1 with g1
 subst g1;have fH:=DJ w p.b (.loop {r with state:=Bb st',pending:=sU pe'})
 refine Hr hh hg hm g2 fH ⟨p,{r with state:=Bb st',pending:=sU pe'},h,hm,KN hr,g2,rfl,h2,rfl,?_,g7,g8,g9,g10,g11⟩ (fun _ _=>⟨_,KN hr⟩);exact Ay (fun _ _ h=>h) (fun _ h=>h) (fun b hb=>fH.other b (fun e=>g2 (e▸hb))) g6
def YK {n:Nat}:∀{ps:List Nat} {vs:List AV} {us:List ye} {tm tm':Env} {tmps:Array ye},pP tm ps vs=some tm'->au O.ah m S w vs us->cp O m S w tm tmps->n<=tmps.size->ze n ps=true->
  ps.length=us.length/\cp O m S w tm' ((ps.zip us).foldl (fun t (x:Nat×ye)=>t.setIfInBounds x.1 x.2) tmps)/\((ps.zip us).foldl (fun t (x:Nat×ye)=>t.setIfInBounds x.1 x.2) tmps).size=tmps.size
 | [],[],us,tm,tm',tmps,h,hr,ht,hn,ha=>by
  simp only [pP,yc] at h;simp only [au] at hr
  simp_all
 | [],_::_,us,tm,tm',tmps,h,hr,ht,hn,ha=>by simp [pP] at h
 | _::_,[],us,tm,tm',tmps,h,hr,ht,hn,ha=>by simp [pP] at h
 | p::ps,v::vs,us,tm,tm',tmps,h,hr,ht,hn,ha=>by
  simp only [pP] at h;obtain ⟨u,t,rfl,h1,h2⟩:=hr;simp only [ze,yf] at ha;have hp:=sO.1 ha.1;have On:cp O m S w ((p,v)::tm) (tmps.setIfInBounds p u):=Qx (a:=⟨tmps,[]⟩) (d:=some p) ht (fun i hi=>by injection hi with hi;show i<tmps.size;omega) h1
  obtain ⟨g1,g2,g3⟩:=YK (n:=n) h h2 On (by simpa using hn) ha.2
  simp_all
def alF (ps:Array Tmp) (args:Array ye) (tmps:Array ye):(ps.zip args).foldl (fun tmps (x:Tmp×ye)=>tmps.setIfInBounds x.1 x.2) tmps=(ps.toList.zip args.toList).foldl (fun t (x:Nat×ye)=>t.setIfInBounds x.1 x.2) tmps:=by
 rw [<-Array.foldl_toList,Array.toList_zip]
def ahH {P:y5} {b:Nat} {r:uf} (h:w.heap[b]? =some (.loop r)) (jump:Option wI):
  (Instr.endRound b jump).run P w= .ok (.bool jump.isNone) {w with heap:=w.heap.setIfInBounds b (.loop {r with state:=if jump.isNone then .ready else .done,pending:=jump})}:=by
 simp only [Instr.endRound,Sem.run_bind,G5 h,Result.andThen_ok,KR (P:=P) h (fun _ _ _=>by simp),Sem.run_pure]
def ahw {P:y5} {b:Nat} {r:uf} (h:w.heap[b]? =some (.loop r)) (hs:r.state= .ready):
  (Instr.beginRound b).run P w= .ok () {w with heap:=w.heap.setIfInBounds b (.loop {r with state:= .busy})}:=by
 simp only [Instr.beginRound,Sem.run_bind,G5 h,Result.andThen_ok,KR (P:=P) h (fun _ _ _=>by simp),hs,Sem.run_pure]
def alG {self:cJ} (hS:∀v s ex s',self v s=some (ex,s')->∀c h l k,(comp O.P (O.hint h) c l k).1=v->A1 O h c s ex s') {l:Nat} {xs:List AV} {v:AV} {ao:Hp} {bh:Nat}
  (hv:iT self hp ct l xs=some (v,ao,bh)):abo O hp ct l xs v ao bh:=by
 intro m S w args p hh hm gL;unfold iT at hv
 split at hv
 case h_2=>cases hv
 rename_i tm ps as_ body pe hg;obtain ⟨r,h,g1,g2,g3,g4,g5,g6,g7,⟨ca,ka,g8⟩,⟨cb,kb,g9⟩,g10,g11⟩:=HG hh hg hm
 cases hb:pP tm ps xs with
 | none=>simp [hb] at hv
 | some tm'=>
  simp only [hb] at hv;obtain ⟨b1,b2,b3⟩:=YK hb gL g6 g10 g11;rw [<-g7] at b1 b2 b3;have eQ:args.size=r.params.size:=by
   grind
  let tmps:Array ye:=(r.params.zip args).foldl (fun tmps (x:Tmp×ye)=>tmps.setIfInBounds x.1 x.2) r.tmps
  have ae0:tmps=(r.params.toList.zip args.toList).foldl (fun t (x:Nat×ye)=>t.setIfInBounds x.1 x.2) r.tmps:=alF _ _ _;refine ⟨r.fn,tmps,r.assign,r.body,?_,?_⟩
  ·simp only [Instr.yield,Sem.run_bind,G5 g1,Result.andThen_ok,eQ,tB,wO,yR,Sem.run_pure];rfl
  refine roundIn_of_wpIn (F:=Fence.wide) trivial ?_
  cases h1:self as_ ⟨tm',hp,ct,ct⟩ with
  | none=>simp [h1] at hv
  | some q=>
   obtain ⟨ex1,s1⟩:=q
   cases ex1 with
   | ret=>simp [h1] at hv
   | exit id=>simp [h1] at hv
   | normal=>
    simp only [h1] at hv;have ez:=hS _ _ _ _ h1 r.assign h ca ka g8;have da:∀w',cu m S w hp m S w' hp ct->sW (some p.b) w':=fun w' hf=>K5 hf (fun l hl=>⟨r,by injection hl with hl;subst hl;exact g1⟩)
    refine wpIn_mono (ez (some p.b) w.heap.size m S w ⟨tmps,[]⟩ (da w cu.refl) (by rw [ae0];exact b2) hh (yD _) (by show _<=tmps.size;rw [ae0,b3];exact g10) hh.fP (yD _) ⟨[],rfl,by simp,by simp⟩) ?_
    rintro e a1 w1 ⟨rfl,m1,S1,k1,k2,k3,k4,k5,k6,k7⟩;simp only [pX,Exit.then];have qu:m1 l=some p:=k5.old l p (hh.lt l p hm) hm
    split at hv
    case h_2=>cases hv
    rename_i iw rO C6 CB pf ib;obtain ⟨r1,iM,f1,f2,f3,f4,f5,f6,f7,f8,f9,f10,f11⟩:=HG k2 ib qu;have UG:=ahw (P:=O.P) f1 f3;obtain ⟨q1,q2⟩:=YJ k2 ib qu f1 (st':=1) (pe':=pf) (by omega)
    have cw:({r1 with state:=Bb 1,pending:=sU pf}:uf)={r1 with state:= .busy}:=by rw [<-f5];rfl
    rw [cw] at q1 q2;refine ⟨_,UG,?_⟩
    cases h2:self body ⟨s1.tm,aY s1.hp l (.lp iw rO C6 CB 1 pf),s1.ct,s1.ct⟩ with
    | none=>simp [h2] at hv
    | some q=>
     obtain ⟨ex,s2⟩:=q;simp only [h2] at hv;have rX:=hS _ _ _ _ h2 r.body h cb kb g9
     have atY:sW (some p.b) {w1 with heap:=w1.heap.setIfInBounds p.b (.loop {r1 with state:= .busy})}:=fun l hl=>by
      grind
     have UH:cp O m1 S1 {w1 with heap:=w1.heap.setIfInBounds p.b (.loop {r1 with state:= .busy})} s1.tm a1.tmps:=
      Ay (fun _ _ h=>h) (fun _ h=>h) (fun b hb=>q2.still b hb) k1
     have atZ:(O.hint h).n<=a1.tmps.size:=by
      grind
     refine wpIn_mono (rX (some p.b) w.heap.size m1 S1 _ a1 atY UH q1 (yD _) atZ hh.fP (xi k5.size q2.size) (Az k2 q2 k7)) ?_;rintro e a2 w2 ⟨rfl,m2,S2,j1,j2,j3,j4,j5,j6,j7⟩;have nW:m2 l=some p:=j5.old l p (k2.lt l p qu) qu
     split at hv
     case h_2=>cases hv
     rename_i nQ By Jz Iu pe2 mE;obtain ⟨r2,JN,d1,d2,d3,d4,d5,d6,d7,d8,d9,d10,d11⟩:=HG j2 mE nW;have at0:cu m S w hp m2 S2 w2 s2.hp ct:=(k5.trans (q2.ru k4)).trans (j5.ru k4);have ae1:ct<=s2.ct:=xi k4 j4;have fin:∀(jump:Option wI) (st':Nat) (pe':rq),sU pe'=jump->Bb st'=(if jump.isNone then .ready else .done)->st'<=2->
       ∃v' w',(Instr.endRound p.b jump).run O.P w2= .ok v' w'/\sH O m S w hp ct (.bool jump.isNone) (aY s2.hp l (.lp nQ By Jz Iu st' pe')) s2.ct (.returned v') w':=by
      intro jump st' pe' e1 e2 e3;obtain ⟨z1,z2⟩:=YJ j2 mE nW d1 (st':=st') (pe':=pe') e3;rw [e1,e2] at z1 z2;exact ⟨_,_,ahH d1 jump,_,m2,S2,rfl,z1,ae1,by simp [aj],at0.trans (z2.ru ae1)⟩
     cases ex with
     | normal=>
      simp only [yc,yk] at hv;obtain ⟨rfl,rfl,rfl⟩:=hv;simp only [pX,roundPost];exact fin none 0 .none rfl rfl (by omega)
     | ret=>
      simp only [Rv,yc,yk] at hv;obtain ⟨rfl,rfl,rfl⟩:=hv;simp only [pX,roundPost];exact fin (some .ret) 2 .ret rfl rfl (by omega)
     | exit id=>
      simp only [Rv,yc,yk] at hv;obtain ⟨rfl,rfl,rfl⟩:=hv;simp only [pX,roundPost];exact fin (some (.exit id)) 2 (.exit id) rfl rfl (by omega)
end
end
section
open Go
section
variable {O:bw} {self:cJ}
def Ls {P:y5} {f:tJ} {fn:tn} {args:Array ye} {w:yh} (hf:P.funcs[f]? =some fn) (hb:fn.body.isSome=true) (hn:fn.name≠ "runtime.NumGoroutine"):(callFunc f args).run P w= .ok (.enter f args) w:=by
 have h1:fn.body≠none:=fun e=>by rw [e] at hb;cases hb
 simp [callFunc,program,Sem.run,hf,h1,hn]
def Pz {P:y5} {H:Hint} {fn:tn} {F:aI} (h:D6 P H fn=some F):∃c,fn.body=some c/\F.body=(comp P H c 0 0).1/\ow P fn.results.toList=some F.dn/\H.n<=fn.ntmps:=by
 unfold D6 at h
 split at h
 ·rename_i c rs h1 h2
  cases hb:Nat.ble H.n fn.ntmps with
  | false=>rw [hb] at h;cases h
  | true=>
   rw [hb] at h;simp only [ym,yc] at h;subst h
   simp_all
 ·cases h
def alH {m:Mp} {S:Nat->Prop} {w:yh} {hp:Hp} {ct:Nat} {tm:Env} {a:Act} {ro:Option Nat} (fn:tJ) (ps:Array Tmp) (assign body:wI) {as_ b':VC} {h:Nat} (hh:aZ O m S w hp ct) (ht:cp O m S w tm a.tmps) (da:sW ro w)
  (UI:BA O.P (O.hint h) as_ assign) (UJ:BA O.P (O.hint h) b' body) (hn:(O.hint h).n<=a.tmps.size) (fg:ze (O.hint h).n ps.toList=true) {lo:Nat} (fj:lo<=w.heap.size) (cQ:Marks lo S w a.defers):
  ∃l mark w1,(Instr.enterLoop fn a.tmps ps assign body ro).run O.P w= .ok (l,mark) w1/\aZ O (fD m ct ⟨l,0,0,0⟩) S w1 ((ct,.lp tm ps.toList as_ b' 0 .none)::hp) (ct+1)/\
   cu m S w hp (fD m ct ⟨l,0,0,0⟩) S w1 ((ct,.lp tm ps.toList as_ b' 0 .none)::hp) ct/\m ct=none/\Marks lo S w1 (mark++a.defers)/\w.heap.size<=l:=by
 have bM:m ct=none:=by
  cases hq:m ct with
  | none=>rfl
  | some p=>have:=hh.lt ct p hq;omega
 have lay:∀(w':yh) (d:Nat),Calm w w'->Marks lo S w' a.defers->
   aZ O (fD m ct ⟨w'.heap.size,0,0,0⟩) S (w'.alloc (.loop {state:= .ready,pending:=none,fn:=fn,tmps:=a.tmps,params:=ps,assign:=assign,body:=body,defers:=d})) ((ct,.lp tm ps.toList as_ b' 0 .none)::hp) (ct+1)/\
   cu m S w hp (fD m ct ⟨w'.heap.size,0,0,0⟩) S (w'.alloc (.loop {state:= .ready,pending:=none,fn:=fn,tmps:=a.tmps,params:=ps,assign:=assign,body:=body,defers:=d})) ((ct,.lp tm ps.toList as_ b' 0 .none)::hp) ct:=by
  intro w' d hw ae2;have iM:aZ O m S w' hp ct:=DO hh hw (fun _ h=>h) (fun _ h=> .inl h) (fun b hb=>Nat.lt_of_lt_of_le (hh.slt b hb) hw.size);have Dd:cu m S w hp m S w' hp ct:=Cc hh hw (fun _ h=>h) (fun _ h=> .inl h);have hg:il hp ct ((ct,.lp tm ps.toList as_ b' 0 .none)::hp) (ct+1):=by
   refine ⟨fun id o ho=>⟨o,?_,jk.refl o⟩,by omega,fun id o ho=>?_,fun id o ho hi=>?_⟩
   ·rw [gU,yz (by have:=hh.bi id o ho;omega)];exact ho
   ·rw [gU] at ho;by_cases hc:ct=id
    ·omega
    ·simp only [hc,yR] at ho;have:=hh.bi id o ho;omega
   ·rw [gU,yz (by omega)] at ho;exact ⟨o,ho⟩
  have ic:∀i q,ap ((ct,Obj.lp tm ps.toList as_ b' 0 .none)::hp) i=some q->i≠ct->ap hp i=some q:=fun i q h hi=>by
   rw [gU,yz (fun e=>hi e.symm)] at h;exact h
  have JN:aZ O m S w' ((ct,.lp tm ps.toList as_ b' 0 .none)::hp) (ct+1):=by
   have dS:∀id p,m id=some p->id≠ct:=fun id p hm e=>by have:=hh.lt id p hm;omega
   exact ⟨fun id o p ho hm=>iM.obj id o p (ic id o ho (dS id p hm)) hm,fun id p hm=>by have:=hh.lt id p hm;omega,
    fun i j oi oj pi pj hi hj bM fW e=>iM.inj i j oi oj pi pj (ic i oi hi (dS i pi bM)) (ic j oj hj (dS j pj fW)) bM fW e,iM.slt,iM.blt,iM.low,iM.lE,iM.fP,hg.lt⟩
  have nU:fB O (fD m ct ⟨w'.heap.size,0,0,0⟩) S (w'.alloc (.loop {state:= .ready,pending:=none,fn:=fn,tmps:=a.tmps,params:=ps,assign:=assign,body:=body,defers:=d})) ct (.lp tm ps.toList as_ b' 0 .none):=by
   refine ⟨⟨w'.heap.size,0,0,0⟩,_,h,eC,heap_alloc_new w' _,?_,rfl,by omega,rfl,?_,rfl,UI,UJ,hn,fg⟩
   ·intro hS
    have:=iM.slt _ hS
    simp at this
   ·exact Ay (kC bM) (fun _ h=>h) (fun b hb=>(G8 iM _ b hb).trans (hw.same b (hh.slt b hb))) ht
  obtain ⟨S',k1,k2,k3⟩:=Zu (i:=ct) (p:=⟨w'.heap.size,0,0,0⟩) JN bM (by omega) rfl (fun o ho=>by
   rw [gU] at ho;simp only [y7,yc] at ho;subst ho
   exact .inl ⟨nU,by simp [iU]⟩)
  have k1':aZ O (fD m ct ⟨w'.heap.size,0,0,0⟩) S (w'.alloc (.loop {state:= .ready,pending:=none,fn:=fn,tmps:=a.tmps,params:=ps,assign:=assign,body:=body,defers:=d})) ((ct,.lp tm ps.toList as_ b' 0 .none)::hp) (ct+1):=by
   have JF:∀id q,m id=some q->q.b≠w'.heap.size:=fun id q hq=>by have:=iM.blt id q hq;omega
   refine ⟨?_,k1.lt,k1.inj,fun b hb=>k1.slt b (k2 b hb),k1.blt,k1.low,k1.lE,k1.fP,k1.bi⟩;intro id o q ho hm;by_cases hc:id=ct
   ·subst hc;rw [gU] at ho
    grind
   ·rw [eB hc] at hm;exact qP (kC bM) (fun _ h=>h) (G8 iM _) (fun q' cf=>alloc_old (iM.blt id q' cf)) (fun _ _ h=>h) (iM.obj id o q (ic id o ho hc) hm)
  refine ⟨k1',Dd.trans ⟨rfl,rfl,rfl,by simp,fun b hb _=>alloc_old hb,fun _ h=>h,fun b hb=>G8 iM _ b hb,fun b hb=> .inl hb,?_,fun i q _ hq=>kC bM i q hq,fun b r hb=>⟨r,(alloc_old (xz.1 hb).1).trans hb⟩⟩⟩;rintro b ⟨i,o,q,g1,g2,g3⟩;by_cases hc:i=ct
  ·subst hc;rw [eC] at g2
   grind
  ·rw [eB hc] at g2;exact .inl ⟨i,o,q,ic i o g1 hc,g2,g3⟩
 cases ro with
 | none=>
  have Ix:Calm w (w.alloc (.deferred (some []))):=⟨rfl,rfl,rfl,by simp,fun b hb=>alloc_old hb⟩;obtain ⟨rs,r1,r2,r3⟩:=cQ;have at1:Marks lo S (w.alloc (.deferred (some []))) a.defers:=⟨rs,r1,r2,fun r hr=>⟨(alloc_old (xz.1 (r3 r hr).1).1).trans (r3 r hr).1,(r3 r hr).2⟩⟩;obtain ⟨k1,k2⟩:=lay (w.alloc (.deferred (some []))) w.heap.size Ix at1
  refine ⟨(w.alloc (.deferred (some []))).heap.size,[{target:= .collected w.heap.size,args:=#[]}],_,?_,k1,k2,bM,?_,by simp⟩
  ·simp [Instr.enterLoop,newObj,Sem.run]
  ·have hold:∀(b:Nat) (x:Go.Obj),(w.alloc (.deferred (some []))).heap[b]? =some x->((w.alloc (.deferred (some []))).alloc (.loop {state:= .ready,pending:=none,fn:=fn,tmps:=a.tmps,params:=ps,assign:=assign,body:=body,defers:=w.heap.size})).heap[b]? =some x:=fun b x hb=>
    (alloc_old (xz.1 hb).1).trans hb
   refine ⟨w.heap.size::rs,by rw [r1];rfl,?_,?_⟩
   ·grind
   ·intro r hr;rcases List.mem_cons.1 hr with rfl | hr
    ·exact ⟨hold _ _ (heap_alloc_new w _),fun hs=>by have:=hh.slt _ hs;omega,fj⟩
    ·exact ⟨hold _ _ ((alloc_old (xz.1 (r3 r hr).1).1).trans (r3 r hr).1),(r3 r hr).2⟩
 | some l0=>
  obtain ⟨r0,nX⟩:=da l0 rfl;obtain ⟨k1,k2⟩:=lay w r0.defers Calm.refl cQ;refine ⟨w.heap.size,[],_,?_,k1,k2,bM,?_,yD _⟩
  ·simp [Instr.enterLoop,G5 nX,newObj,Sem.run]
  ·exact Az hh k2 cQ
def asq (hO:eH O) (hC:nv O self) {h:Nat} {f:Operand} {ps:Array Tmp} {assign body:wI} {as_ b':VC} (UI:BA O.P (O.hint h) as_ assign) (UJ:BA O.P (O.hint h) b' body) (fg:ze (O.hint h).n ps.toList=true)
  {s:St} {ex:Ex} {s':St} (hv:bI O.prog O.aU self (.rf (aR (O.hint h) f) ps.toList as_ b') s=some (ex,s')):A1 O h (.rangeFunc f ps assign body) s ex s':=by
 intro ro lo m S w a da ht hh hb hn bn fj cQ;simp only [bI] at hv
 split at hv
 case h_2=>cases hv
 rename_i n first cap hx
 split at hv
 case h_1=>cases hv
 rename_i hL
 cases he:ik O.prog O.aU self ((s.ct,.lp s.tm ps.toList as_ b' 0 .none)::s.hp) (s.ct+1) n (first++(.fn (.y s.ct) [] []::cap)) with
 | none=>simp [he] at hv
 | some q=>
  obtain ⟨v,bD,rY⟩:=q;simp only [he] at hv
  split at hv
  case h_2=>cases hv
  rename_i nQ By Jz Iu st pe mE
  cases bf:yr st 1 with
  | true=>rw [bf] at hv;cases hv
  | false=>
   rw [bf] at hv;simp only [yB] at hv;refine wpIn_rangeFunc (fun fn _=>?_);obtain ⟨l,mark,w1,e1,e2,e3,e4,e5,e6⟩:=alH (ro:=ro) fn ps assign body hh ht da UI UJ hn fg fj cQ;have rf:=cF (hO.hint h) ht f;rw [hx] at rf;simp only [aj] at rf;obtain ⟨fi,ca,hf,r2,r3⟩:=rf;have hle:=kC e4 (p:=⟨l,0,0,0⟩);have Bc:fO S w w1:=fun b hb=>e3.still b hb
   have gL:au O.ah (fD m s.ct ⟨l,0,0,0⟩) S w1 (first++(.fn (.y s.ct) [] []::cap)) (fi++#[Value.func (.yield l) #[] #[]]++ca).toList:=by
    have:=lU (gT hle (fun _ h=>h) Bc _ _ r2) (lU (a:=[.fn (.y s.ct) [] []]) (x:=[Value.func (.yield l) #[] #[]]) (by
     simp only [au]
     exact ⟨_,[],rfl,by simp only [aj];exact ⟨_,eC,rfl⟩,rfl⟩) (gT hle (fun _ h=>h) Bc _ _ r3))
    grind
   have zg:=hC.heap _ _ _ _ _ _ _ he _ S w1 _ e2 gL;have hP:∃F,O.prog n=some F:=by
    unfold ik at he;rw [hL] at he
    cases hq:O.prog n with
    | none=>simp [hq] at he
    | some F=>exact ⟨F,rfl⟩
   obtain ⟨F,hF⟩:=hP;obtain ⟨fn',q1,q2,q3⟩:=hO.prog n F hF;obtain ⟨cb,q4,_⟩:=Pz q2;have fI:(callFunc (O.ah n) (fi++#[Value.func (.yield l) #[] #[]]++ca)).run O.P w1= .ok (.enter (O.ah n) (fi++#[Value.func (.yield l) #[] #[]]++ca)) w1:=Ls q1 (by rw [q4];rfl) q3
   refine ⟨l,mark,w1,{target:= .fn (.func (O.ah n)) ca,args:=fi++#[Value.func (.yield l) #[] #[]]},w1,O.ah n,fi++#[Value.func (.yield l) #[] #[]]++ca,w1,e1,?_,fun _ _=>trivial,?_,fun hd=>by simp [WF,Fence.wide] at hd,?_⟩
   ·show Sem.run O.P (Deferred.ofValue (a.eval f) _) w1=_
    rw [hf];simp [Deferred.ofValue,Act.eval]
   ·simp only [invoke];exact fI
   ·rcases zg with ⟨_,zg⟩ | ⟨u,w',h1,_⟩
    case inr=>rw [fI] at h1;cases h1
    have ap6:CallsIn (WF ro) 0 O.P (O.ah n) (fi++#[Value.func (.yield l) #[] #[]]++ca) w1 (sH O (fD m s.ct ⟨l,0,0,0⟩) S w1 ((s.ct,.lp s.tm ps.toList as_ b' 0 .none)::s.hp) (s.ct+1) v bD rY):=zg;refine CallsIn.mono ap6 ?_;rintro e w3 ⟨u,m',S',rfl,k1,k2,k3,k4⟩;have fV:m' s.ct=some ⟨l,0,0,0⟩:=k4.old s.ct _ (Nat.lt_succ_self _) eC;obtain ⟨r,JN,d1,d2,d3,d4,d5,d6,_⟩:=HG k1 mE fV;have pv:(r.state==LoopState.busy)=false:=by
     rw [d3];rcases st with _ | _ | st
     ·rfl
     ·simp_all
     ·have:st=0:=by omega
      subst this;rfl
    have fH:=DJ w3 l (.loop {r with state:= .exhausted});have UK:=ZC k1 s.ct;have nV:¬ej m' (dz bD s.ct) l:=Xl k1 mE fV
    have z1:aZ O m' S' {w3 with heap:=w3.heap.setIfInBounds l (.loop {r with state:= .exhausted})} (VE.dz bD s.ct) rY:=XV UK fH d2 nV (by have:=hh.fP;omega)
    have z2:cu m' S' w3 bD m' S' {w3 with heap:=w3.heap.setIfInBounds l (.loop {r with state:= .exhausted})} (VE.dz bD s.ct) s.base:=by
     refine ⟨rfl,rfl,rfl,by rw [fH.size];exact yD _,fun b _ hb=>fH.other b (fun e=>hb (e▸HT mE fV)),fun _ h=>h,fun b hb=>fH.other b (fun e=>d2 (e▸hb)),fun b hb=> .inl hb,fun b hb=> .inl (aaF hb),fun _ _ _ h=>h,fun b x hb=>?_⟩
     grind
    have SG:cu m S w s.hp m' S' {w3 with heap:=w3.heap.setIfInBounds l (.loop {r with state:= .exhausted})} (VE.dz bD s.ct) s.base:=
     ((e3.ru hb).trans (k4.ru (by omega))).trans z2
    have MZ:(Instr.endLoop l).run O.P w3= .ok (sU pe) {w3 with heap:=w3.heap.setIfInBounds l (.loop {r with state:= .exhausted})}:=by
     simp only [Instr.endLoop,Sem.run_bind,G5 d1,Result.andThen_ok,pv,Bool.false_eq_true,yR,Sem.run_pure,KR (P:=O.P) d1 (fun _ _ _=>by simp),d5]
    have ae2:Marks lo S' {w3 with heap:=w3.heap.setIfInBounds l (.loop {r with state:= .exhausted})} (mark++a.defers):=Az k1 z2 (Az e2 k4 e5)
    have z8:cp O m' S' {w3 with heap:=w3.heap.setIfInBounds l (.loop {r with state:= .exhausted})} s.tm a.tmps:=by
     refine Ay (fun id p hp=>?_) SG.sub (fun b hb=>SG.still b hb) ht;have h1:=hh.lt id p hp;exact k4.old id p (by omega) (hle id p hp)
    have post:∀UL,s'={s with hp:=VE.dz bD s.ct,ct:=rY}->ex=UL->eP O m S w s ex s' a.tmps.size lo (pX UL) {a with defers:=mark++a.defers} {w3 with heap:=w3.heap.setIfInBounds l (.loop {r with state:= .exhausted})}:=by
     rintro UL rfl rfl;exact ⟨rfl,m',S',z8,z1,rfl,by show s.base<=rY;omega,SG,rfl,ae2⟩
    refine ⟨_,_,MZ,?_⟩
    cases pe with
    | none=>
     simp only [yc,yk] at hv;exact post .normal hv.2.symm hv.1.symm
    | ret=>
     simp only [yc,yk] at hv;exact wpIn_ret (post .ret hv.2.symm hv.1.symm)
    | exit id=>
     simp only [yc,yk] at hv;exact wpIn_exit (post (.exit id) hv.2.symm hv.1.symm)
end
end
section
def Le (f g:cJ):Prop:=∀c s r,f c s=some r->g c s=some r
section
variable {P:aK} {L:Lib} {f g:cJ}
def Ps (h:Le f g) (n:Nat) (vals:List AV) (r:AV) (hr:bR P L f n vals=some r):bR P L g n vals=some r:=by
 unfold bR at hr ⊢
 cases hL:L.pure n with
 | some sp=>simpa only [hL] using hr
 | none=>
  simp only [hL] at hr ⊢
  cases hP:P n with
  | none=>simp [hP] at hr
  | some F=>
   simp only [hP] at hr ⊢
   cases hf:f F.body ⟨fp 0 vals,[],0,0⟩ with
   | none=>simp [hf] at hr
   | some q=>rw [h _ _ _ hf];simpa only [hf] using hr
def PA (h:Le f g) (hp:Hp) (ct:Nat) (n:Nat) (vals:List AV) (r:AV×Hp×Nat) (hr:ik P L f hp ct n vals=some r):ik P L g hp ct n vals=some r:=by
 unfold ik at hr ⊢
 cases hL:L.heap n with
 | some sp=>simpa only [hL] using hr
 | none=>
  simp only [hL] at hr ⊢
  cases hP:P n with
  | none=>simp [hP] at hr
  | some F=>
   simp only [hP] at hr ⊢
   cases hf:f F.body ⟨fp 0 vals,hp,ct,ct⟩ with
   | none=>simp [hf] at hr
   | some q=>rw [h _ _ _ hf];simpa only [hf] using hr
def Xd (h:Le f g) (hp:Hp) (ct:Nat) (l:Nat) (xs:List AV) (r:AV×Hp×Nat) (hr:iT f hp ct l xs=some r):iT g hp ct l xs=some r:=by
 unfold iT at hr ⊢
 cases hl:ap hp l with
 | none=>simp [hl] at hr
 | some o=>
  simp only [hl] at hr ⊢
  split at hr
  ·rename_i tm ps as_ body pe nY;simp only [yc] at nY;subst nY
   (try simp only at hr ⊢)
   cases hb:pP tm ps xs with
   | none=>simp [hb] at hr
   | some tm'=>
    simp only [hb] at hr ⊢
    cases h1:f as_ ⟨tm',hp,ct,ct⟩ with
    | none=>simp [h1] at hr
    | some q=>
     rw [h _ _ _ h1];simp only [h1] at hr ⊢
     split at hr
     ·rename_i s1 SH;simp only [yc] at SH;subst SH
      (try simp only at hr ⊢)
      split at hr
      ·rename_i iw rO C6 CB pf ae3
       (try simp only [ae3])
       cases h2:f body ⟨s1.tm,aY s1.hp l (.lp iw rO C6 CB 1 pf),s1.ct,s1.ct⟩ with
       | none=>simp [h2] at hr
       | some q2=>rw [h _ _ _ h2];simpa only [h2] using hr
      ·simp at hr
     ·simp at hr
  ·simp at hr
def Xq (h:Le f g) (hp:Hp) (ct:Nat) (m:Md) (fv:AV) (xs:List AV) (r:AV×Hp×Nat) (hr:dC P L f hp ct m fv xs=some r):dC P L g hp ct m fv xs=some r:=by
 unfold dC at hr ⊢
 split at hr
 ·rename_i n first cap
  cases m with
  | pure=>
   simp only at hr ⊢
   cases hz:cN deep hp (first++(xs++cap)) with
   | none=>simp [hz] at hr
   | some q=>
    simp only [hz] at hr ⊢
    cases hc:bR P L f n q.1 with
    | none=>simp [hc] at hr
    | some u=>rw [Ps h n q.1 u hc];simpa only [hc] using hr
  | own=>
   simp only at hr ⊢
   cases hz:cN deep hp (first++(xs++cap)) with
   | none=>simp [hz] at hr
   | some q=>
    simp only [hz] at hr ⊢
    cases hc:bR P L f n q.1 with
    | none=>simp [hc] at hr
    | some u=>rw [Ps h n q.1 u hc];simpa only [hc] using hr
  | heap=>exact PA h _ _ _ _ _ hr
  | dyn=>
   simp only at hr ⊢
   cases hz:aJ (first++(xs++cap)) with
   | true=>
    simp only [hz,ym] at hr ⊢
    cases hc:bR P L f n (first++(xs++cap)) with
    | none=>simp [hc] at hr
    | some u=>rw [Ps h n _ u hc];simpa only [hc] using hr
   | false=>
    simp only [hz,yB] at hr ⊢;exact PA h _ _ _ _ _ hr
 ·split at hr
  ·exact Xd h _ _ _ _ _ hr
  ·exact Xd h _ _ _ _ _ hr
  ·simp at hr
 ·simp at hr
def YL (h:Le f g) (tm:Env) (hp:Hp) (ct:Nat) (o:Op) (r:AV×Hp×Nat) (hr:bt P L f tm hp ct o=some r):bt P L g tm hp ct o=some r:=by
 unfold bt at hr ⊢
 split at hr
 ·exact Xq h _ _ _ _ _ _ hr
 ·rename_i rs fv xs
  (try simp only at hr ⊢)
  cases hc:dC P L f hp ct .dyn (az tm fv) (dD tm xs) with
  | none=>simp [hc] at hr
  | some q=>rw [Xq h _ _ _ _ _ _ hc];simpa only [hc] using hr
 all_goals simpa only using hr
def KS (h:Le f g):∀(ops:List bl) (s s':St),dP P L f ops s=some s'->dP P L g ops s=some s'
 | [],s,s',hr=>by simpa only [dP] using hr
 | ⟨d,gd,o⟩::r,s,s',hr=>by
  simp only [dP] at hr ⊢
  split at hr
  ·rename_i hw
   try simp only [hw]
   cases ho:bt P L f s.tm s.hp s.ct o with
   | none=>simp [ho] at hr
   | some q=>rw [YL h _ _ _ _ _ ho];simp only [ho] at hr ⊢;exact KS h r _ _ hr
  ·rename_i hw
   (try simp only [hw]);exact KS h r _ _ hr
  ·simp at hr
def pH (h:Le f g):∀(c:VC) (s:St) (r:Ex×St),bI P L f c s=some r->bI P L g c s=some r
 | .skip,s,r,hr=>by simpa only [bI] using hr
 | .aV ops,s,r,hr=>by
  simp only [bI] at hr ⊢
  cases ho:dP P L f ops s with
  | none=>simp [ho] at hr
  | some s'=>rw [KS h _ _ _ ho];simpa only [ho] using hr
 | .seq a b,s,r,hr=>by
  simp only [bI] at hr ⊢
  cases ha:bI P L f a s with
  | none=>simp [ha] at hr
  | some q=>
   rw [pH h a s q ha];obtain ⟨ex,s1⟩:=q
   cases ex with
   | normal=>simp only [ha] at hr ⊢;exact pH h b s1 r hr
   | ret=>simpa only [ha] using hr
   | exit id=>simpa only [ha] using hr
 | .cond x a b,s,r,hr=>by
  simp only [bI] at hr ⊢
  split at hr
  ·rename_i t ht
   try simp only [ht]
   cases t with
   | true=>simp only [ym] at hr ⊢;exact pH h a s r hr
   | false=>simp only [yB] at hr ⊢;exact pH h b s r hr
  ·simp at hr
 | .aO id a,s,r,hr=>by
  simp only [bI] at hr ⊢
  cases ha:bI P L f a s with
  | none=>simp [ha] at hr
  | some q=>rw [pH h a s q ha];simpa only [ha] using hr
 | .kp live,s,r,hr=>by simpa only [bI] using hr
 | .fz ts,s,r,hr=>by simpa only [bI] using hr
 | .loop live a,s,r,hr=>by
  simp only [bI] at hr ⊢
  cases ha:bI P L f a (bH live s) with
  | none=>simp [ha] at hr
  | some q=>
   rw [pH h a _ q ha];obtain ⟨ex,s1⟩:=q
   cases ex with
   | normal=>simp only [ha] at hr ⊢;exact h _ _ _ hr
   | ret=>simpa only [ha] using hr
   | exit id=>simpa only [ha] using hr
 | .rf fv ps as_ body,s,r,hr=>by
  simp only [bI] at hr ⊢
  split at hr
  ·rename_i n first cap hx
   try simp only [hx]
   split at hr
   ·simp at hr
   ·rename_i hL
    try simp only [hL]
    cases hc:ik P L f ((s.ct,.lp s.tm ps as_ body 0 .none)::s.hp) (s.ct+1) n (first++(.fn (.y s.ct) [] []::cap)) with
    | none=>simp [hc] at hr
    | some q=>rw [PA h _ _ _ _ _ hc];simpa only [hc] using hr
  ·simp at hr
 | .exit id,s,r,hr=>by simpa only [bI] using hr
 | .ret,s,r,hr=>by simpa only [bI] using hr
end
def HI (P:aK) (L:Lib) (c:VC) (s:St):ev P L 0 c s=none:=rfl
def HJ (P:aK) (L:Lib) (n:Nat):ev P L (n+1)=bI P L (ev P L n):=rfl
def adm (P:aK) (L:Lib):∀n,Le (ev P L n) (ev P L (n+1))
 | 0=>fun c s r h=>by rw [HI] at h;cases h
 | n+1=>fun c s r h=>by
  rw [HJ] at h ⊢;exact pH (adm P L n) c s r h
def Q1 (P:aK) (L:Lib) {n m:Nat} (h:n<=m):Le (ev P L n) (ev P L m):=by
 induction h with
 | refl=>exact fun _ _ _ h=>h
 | step _ ih=>exact fun c s r hr=>adm P L _ c s r (ih c s r hr)
end
section
open Go
section
variable {O:bw} {self:cJ}
def eP.none {m:Mp} {S:Nat->Prop} {w:yh} {s s':St} {ex:Ex} {n lo:Nat} {a:Act} {w':yh} (l:Nat):¬eP O m S w s ex s' n lo (.goto l) a w':=by
 rintro ⟨h,_⟩;cases ex<;>cases h
def eP.then {m m1:Mp} {S S1:Nat->Prop} {w w1:yh} {s s1 s2:St} {ex:Ex} {n lo:Nat} {a':Act} {w':yh} {e:uI} {ex1:Ex} (h1:s1.base=s.base)
  (hf:cu m S w s.hp m1 S1 w1 s1.hp s.base) (h:eP O m1 S1 w1 s1 ex s2 n lo e a' w'):eP O m S w s ex s2 n lo e a' w':=by
 obtain ⟨h2,m',S',k1,k2,k3,k4,k5,k6,k7⟩:=h;rw [h1] at k3 k4 k5;exact ⟨h2,m',S',k1,k2,k3,k4,hf.trans k5,k6,k7⟩
def eP.cX {m:Mp} {S:Nat->Prop} {w:yh} {s s1:St} {n lo:Nat} {a':Act} {w':yh} {e:uI} {ex:Ex} (live:List Nat) (h:eP O m S w s ex s1 n lo e a' w'):eP O m S w s ex (bH live s1) n lo e a' w':=by
 obtain ⟨h2,m',S',k1,k2,k3,k4,k5,k6,k7⟩:=h;obtain ⟨m2,g1,g2,g3,g4,g5⟩:=PK (live:=live) k1 k2 (by rw [k3];exact k4)
 rw [k3] at g3 g4 g5;exact ⟨h2,m2,S',g1,g2,g3,g4,k5.trans g5,k6,Az k2 g5 k7⟩
def adn {m:Mp} {w:yh} {tmps:Array ye}:∀{ts:List Nat} {s s1:St} {S:Nat->Prop},cp O m S w s.tm tmps->aZ O m S w s.hp s.ct->oH ts s=some s1->
  ∃S1,cp O m S1 w s1.tm tmps/\aZ O m S1 w s1.hp s1.ct/\s1.base=s.base/\s1.ct=s.ct/\∀base,cu m S w s.hp m S1 w s1.hp base
 | [],s,s1,S,ht,hh,h=>by
  simp only [oH,yc] at h;subst h;exact ⟨S,ht,hh,rfl,rfl,fun _=>cu.refl⟩
 | t::r,s,s1,S,ht,hh,h=>by
  simp only [oH] at h
  cases hz:freeze deep s.hp (af s.tm t) with
  | none=>simp [hz] at h
  | some q=>
   obtain ⟨v,hp⟩:=q;simp only [hz] at h;obtain ⟨h1,h2,h3⟩:=P1 (O:=O) hz;have hg:il s.hp s.ct hp s.ct:=⟨h1,yD _,fun id o ho=>(by
     have:=h2 id
     rw [ho] at this
     cases hq:ap s.hp id with
     | none=>rw [hq] at this;simp at this
     | some o'=>exact hh.bi id o' hq),fun id o ho _=>(by
     have:=h2 id
     rw [ho] at this
     cases hq:ap s.hp id with
     | none=>rw [hq] at this;simp at this
     | some o'=>exact ⟨o',rfl⟩)⟩
   obtain ⟨S',k1,k2,k3,k4⟩:=Lm hh hg;have z8:cp O m S' w ((t,v)::s.tm) tmps:=by
    intro i;simp only [af]
    cases hb:yr t i with
    | true=>
     have:=yo hb
     subst this;exact (h3 hp m S' w s.ct dt.refl k1).1 _ (lX (fun _ _ h=>h) k2 (fun _ _=>rfl) _ _ (ht t))
    | false=>
     exact lX (fun _ _ h=>h) k2 (fun _ _=>rfl) _ _ (ht i)
   obtain ⟨S1,g1,g2,g3,g4,g5⟩:=adn (s:={s with tm:=(t,v)::s.tm,hp:=hp}) z8 k1 h;exact ⟨S1,g1,g2,g3,g4,fun base=>(k4 base).trans (g5 base)⟩
def aaL (hO:eH O) (n:Nat) (hC:∀k,k<=n->nv O (ev O.prog O.aU k)) (h:Nat):∀(c:wI) (l k:Nat) (j:Nat),j<=n->∀(s:St) (ex:Ex) (s':St),
  bI O.prog O.aU (ev O.prog O.aU j) (comp O.P (O.hint h) c l k).1 s=some (ex,s')->A1 O h c s ex s':=by
 have refl:∀{s:St} {ex:Ex} {m:Mp} {S:Nat->Prop} {w:yh} {a:Act} {lo:Nat},cp O m S w s.tm a.tmps->aZ O m S w s.hp s.ct->s.base<=s.ct->Marks lo S w a.defers->eP O m S w s ex s a.tmps.size lo (pX ex) a w:=
  fun h1 h2 h3 h4=>⟨rfl,_,_,h1,h2,rfl,h3,cu.refl,rfl,h4⟩
 have SI:∀{self:cJ} {s:St} {r:Ex×St},bI O.prog O.aU self (.aV [⟨none,none,bad⟩]) s=some r->False:=by
  intro self s r hv;simp [bI,dP,bad,bt,dC,az] at hv
 intro c
 induction c with
 | skip=>
  intro l k j hj s ex s' hv ro lo m S w a da ht hh hb hn bn fj cQ;simp only [comp,bI,yc,yk] at hv;obtain ⟨rfl,rfl⟩:=hv;exact wpIn_skip (refl ht hh hb cQ)
 | label x=>
  intro l k j hj s ex s' hv ro lo m S w a da ht hh hb hn bn fj cQ;simp only [comp,bI,yc,yk] at hv;obtain ⟨rfl,rfl⟩:=hv;exact wpIn_label (refl ht hh hb cQ)
 | exit id=>
  intro l k j hj s ex s' hv ro lo m S w a da ht hh hb hn bn fj cQ;simp only [comp,bI,yc,yk] at hv;obtain ⟨rfl,rfl⟩:=hv
  exact wpIn_exit (refl (ex:= .exit id) ht hh hb cQ)
 | ret=>
  intro l k j hj s ex s' hv ro lo m S w a da ht hh hb hn bn fj cQ;simp only [comp,bI,yc,yk] at hv;obtain ⟨rfl,rfl⟩:=hv
  exact wpIn_ret (refl (ex:= .ret) ht hh hb cQ)
 | goto x=>intro l k j hj s ex s' hv;exact (SI (by simpa only [comp] using hv)).elim
 | refuse x=>intro l k j hj s ex s' hv;exact (SI (by simpa only [comp] using hv)).elim
 | region id ops d=>
  intro l k j hj s ex s' hv;simp only [comp] at hv;generalize hq:LI O.P (O.hint h) ops d k=q at hv;obtain ⟨r,k'⟩:=q;have main:∀{s s':St} {ex:Ex},bI O.prog O.aU (ev O.prog O.aU j) (.aV r) s=some (ex,s')->A1 O h (.region id ops d) s ex s':=by
   intro s s' ex hv;simp only [bI] at hv
   cases ho:dP O.prog O.aU (ev O.prog O.aU j) r s with
   | none=>simp [ho] at hv
   | some s1=>
    simp only [ho,yc,yk] at hv;obtain ⟨rfl,rfl⟩:=hv;exact ap5 hO (hC j hj) h id ops d k (by rw [hq];exact ho)
  simp only at hv
  split at hv
  ·exact main hv
  ·rename_i t ts _;simp only [bI] at hv
   cases hf:oH (t::ts) s with
   | none=>simp [hf] at hv
   | some s1=>
    simp only [hf] at hv;intro ro lo m S w a da ht hh hb hn bn fj cQ;obtain ⟨S1,g1,g2,g3,g4,g5⟩:=adn ht hh hf;have h1:=main (s:=s1) (by simpa only [bI] using hv) ro lo m S1 w a da g1 g2 (by rw [g3,g4];exact hb) hn bn fj (Az hh (g5 s.base) cQ)
    refine wpIn_mono h1 (fun e a' w' hp=>?_)
    exact eP.then (ex1:= .normal) g3 (g5 s.base) hp
 | seq x y ihx ihy=>
  intro l k j hj s ex s' hv ro lo m S w a da ht hh hb hn bn fj cQ;simp only [comp] at hv;generalize rZ:comp O.P (O.hint h) x l k=qx at hv;obtain ⟨x',l1,k1⟩:=qx;simp only at hv;generalize JO:comp O.P (O.hint h) y l1 k1=qy at hv;obtain ⟨y',l2,k2⟩:=qy;simp only [bI] at hv
  cases hx:bI O.prog O.aU (ev O.prog O.aU j) x' s with
  | none=>simp [hx] at hv
  | some r=>
   obtain ⟨ex1,s1⟩:=r;have h1:=ihx l k j hj s ex1 s1 (by rw [rZ];exact hx) ro lo m S w a da ht hh hb hn bn fj cQ
   refine wpIn_seq (wpIn_mono h1 ?_);rintro e a1 w1 ⟨rfl,m1,S1,g1,g2,g3,g4,g5,g6,g7⟩;have stop:ex1≠.normal->ex=ex1/\s'=s1:=by
    intro dS;rw [hx] at hv
    cases ex1 with
    | normal=>exact absurd rfl dS
    | ret=>simp only [yc,yk] at hv;exact ⟨hv.1.symm,hv.2.symm⟩
    | exit id=>simp only [yc,yk] at hv;exact ⟨hv.1.symm,hv.2.symm⟩
   cases ex1 with
   | normal=>
    simp only [hx] at hv;simp only [pX,Exit.then];have h2:=ihy l1 k1 j hj s1 ex s' (by rw [JO];exact hv) ro lo m1 S1 w1 a1 (K5 g5 da) g1 g2 (by rw [g3];exact g4) (by rw [g6];exact hn) bn (xi fj g5.size) g7
    rw [g6] at h2
    exact wpIn_mono h2 (fun e a' w' hp=>eP.then (ex1:= .normal) g3 g5 hp)
   | ret=>
    obtain ⟨rfl,rfl⟩:=stop (by simp);exact ⟨rfl,m1,S1,g1,g2,g3,g4,g5,g6,g7⟩
   | exit id=>
    obtain ⟨rfl,rfl⟩:=stop (by simp);exact ⟨rfl,m1,S1,g1,g2,g3,g4,g5,g6,g7⟩
 | cond x p q ihp ihq=>
  intro l k j hj s ex s' hv ro lo m S w a da ht hh hb hn bn fj cQ;simp only [comp] at hv;generalize rZ:comp O.P (O.hint h) p (l+1) k=qx at hv;obtain ⟨p',l1,k1⟩:=qx;simp only at hv;generalize JO:comp O.P (O.hint h) q l1 k1=qy at hv;obtain ⟨q',l2,k2⟩:=qy;simp only at hv;have main:∀(ex:Ex) (s':St),bI O.prog O.aU (ev O.prog O.aU j) (.cond (aR (O.hint h) x) p' q') s=some (ex,s')->(Code.cond x p q).wpIn (WF ro) 0 O.P (eP O m S w s ex s' a.tmps.size lo) a w:=by
   intro ex s' hv;simp only [bI] at hv;have rx:=cF (hO.hint h) ht x
   split at hv
   ·rename_i t hx;rw [hx] at rx;simp only [aj] at rx
    cases t with
    | true=>
     simp only [ym] at hv;exact wpIn_cond_true rx (ihp (l+1) k j hj s ex s' (by rw [rZ];exact hv) ro lo m S w a da ht hh hb hn bn fj cQ)
    | false=>
     simp only [yB] at hv;exact wpIn_cond_false rx (ihq l1 k1 j hj s ex s' (by rw [JO];exact hv) ro lo m S w a da ht hh hb hn bn fj cQ)
   ·cases hv
  cases EI:(O.hint h).out l with
  | none=>rw [EI] at hv;exact main ex s' hv
  | some live=>
   rw [EI] at hv;simp only at hv;rw [show bI O.prog O.aU (ev O.prog O.aU j) (.seq (.cond (aR (O.hint h) x) p' q') (.kp live)) s=match bI O.prog O.aU (ev O.prog O.aU j) (.cond (aR (O.hint h) x) p' q') s with | some (.normal,s1)=>some (.normal,bH live s1) | r=>r from rfl] at hv
   cases hx:bI O.prog O.aU (ev O.prog O.aU j) (.cond (aR (O.hint h) x) p' q') s with
   | none=>simp [hx] at hv
   | some r=>
    obtain ⟨ex1,s1⟩:=r;have h1:=main ex1 s1 hx;rw [hx] at hv
    cases ex1 with
    | normal=>
     simp only [yc,yk] at hv;obtain ⟨rfl,rfl⟩:=hv;exact wpIn_mono h1 (fun e a' w' hp=>eP.cX live hp)
    | ret=>simp only [yc,yk] at hv;obtain ⟨rfl,rfl⟩:=hv;exact h1
    | exit id=>simp only [yc,yk] at hv;obtain ⟨rfl,rfl⟩:=hv;exact h1
 | block id x ih=>
  intro l k j hj s ex s' hv ro lo m S w a da ht hh hb hn bn fj cQ;simp only [comp] at hv;generalize rZ:comp O.P (O.hint h) x l k=qx at hv;obtain ⟨x',r⟩:=qx;simp only at hv;have main:∀(ex:Ex) (s':St),bI O.prog O.aU (ev O.prog O.aU j) (.aO id x') s=some (ex,s')->(Code.block id x).wpIn (WF ro) 0 O.P (eP O m S w s ex s' a.tmps.size lo) a w:=by
   intro ex s' hv;simp only [bI] at hv
   cases hx:bI O.prog O.aU (ev O.prog O.aU j) x' s with
   | none=>simp [hx] at hv
   | some q=>
    obtain ⟨ex1,s1⟩:=q;have h1:=ih l k j hj s ex1 s1 (by rw [rZ];exact hx) ro lo m S w a da ht hh hb hn bn fj cQ
    refine wpIn_block (wpIn_mono h1 ?_);rintro e a1 w1 ⟨rfl,g⟩
    cases ex1 with
    | normal=>
     simp only [hx,yc,yk] at hv;obtain ⟨rfl,rfl⟩:=hv;exact ⟨rfl,g⟩
    | ret=>
     simp only [hx,yc,yk] at hv;obtain ⟨rfl,rfl⟩:=hv;exact ⟨rfl,g⟩
    | exit i=>
     simp only [hx] at hv
     cases Oo:yr i id with
     | true=>
      rw [Oo] at hv;simp only [ym,yc,yk] at hv;obtain ⟨rfl,rfl⟩:=hv
      have:=yo Oo
      subst this;simp only [pX,Exit.inBlock,y7];exact ⟨rfl,g⟩
     | false=>
      rw [Oo] at hv;simp only [yB,yc,yk] at hv;obtain ⟨rfl,rfl⟩:=hv;have dS:i≠id:=fun e=>by subst e;simp at Oo
      simp only [pX,Exit.inBlock,dS,yR];exact ⟨rfl,g⟩
  have asr:∀live:List Nat,bI O.prog O.aU (ev O.prog O.aU j) (.seq (.aO id x') (.kp live)) s=some (ex,s')->(Code.block id x).wpIn (WF ro) 0 O.P (eP O m S w s ex s' a.tmps.size lo) a w:=by
   intro live hv;rw [show bI O.prog O.aU (ev O.prog O.aU j) (.seq (.aO id x') (.kp live)) s=match bI O.prog O.aU (ev O.prog O.aU j) (.aO id x') s with | some (.normal,s1)=>some (.normal,bH live s1) | r=>r from rfl] at hv
   cases hx:bI O.prog O.aU (ev O.prog O.aU j) (.aO id x') s with
   | none=>simp [hx] at hv
   | some r=>
    obtain ⟨ex1,s1⟩:=r;have h1:=main ex1 s1 hx;rw [hx] at hv
    cases ex1 with
    | normal=>
     simp only [yc,yk] at hv;obtain ⟨rfl,rfl⟩:=hv;exact wpIn_mono h1 (fun e a' w' hp=>eP.cX live hp)
    | ret=>simp only [yc,yk] at hv;obtain ⟨rfl,rfl⟩:=hv;exact h1
    | exit id=>simp only [yc,yk] at hv;obtain ⟨rfl,rfl⟩:=hv;exact h1
  split at hv
  ·exact asr _ hv
  ·exact main ex s' hv
 | loop x ih=>
  intro l k j hj s ex s' hv;simp only [comp] at hv;generalize rZ:comp O.P (O.hint h) x (l+1) k=qx at hv;obtain ⟨x',r⟩:=qx;simp only at hv;have rounds:∀(j:Nat),j<=n->∀(s:St) (ex:Ex) (s':St),bI O.prog O.aU (ev O.prog O.aU j) (.loop ((O.hint h).live l) x') s=some (ex,s')->∃K,∀(ro:Option Nat) (lo:Nat) (m:Mp) (S:Nat->Prop) (w:yh) (a:Act),sW ro w->cp O m S w s.tm a.tmps->aZ O m S w s.hp s.ct->s.base<=s.ct->(O.hint h).n<=a.tmps.size->O.w0.heap.size<=lo->lo<=w.heap.size->Marks lo S w a.defers->
    Code.roundsIn (WF ro) 0 O.P x (eP O m S w s ex s' a.tmps.size lo) K a w:=by
   intro j
   induction j with
   | zero=>
    intro hj s ex s' hv;simp only [bI] at hv
    cases hx:bI O.prog O.aU (ev O.prog O.aU 0) x' (bH ((O.hint h).live l) s) with
    | none=>simp [hx] at hv
    | some q=>
     obtain ⟨ex1,s1⟩:=q;have stop:ex1≠.normal->ex=ex1/\s'=s1:=by
      intro dS;rw [hx] at hv
      cases ex1 with
      | normal=>exact absurd rfl dS
      | ret=>simp only [yc,yk] at hv;exact ⟨hv.1.symm,hv.2.symm⟩
      | exit id=>simp only [yc,yk] at hv;exact ⟨hv.1.symm,hv.2.symm⟩
     refine ⟨1,fun ro lo m S w a da ht hh hb hn bn fj cQ=>?_⟩;rw [roundsIn_succ];obtain ⟨m1,c1,c2,c3,c4,c5⟩:=PK (live:=(O.hint h).live l) ht hh hb;have h1:=ih (l+1) k 0 hj _ ex1 s1 (by rw [rZ];exact hx) ro lo m1 S w a da c1 c2 (by rw [c3];exact c4) hn bn fj cQ
     refine wpIn_mono h1 ?_;rintro e a1 w1 hp;have ao:=eP.then (O:=O) (m:=m) (S:=S) (w:=w) (s:=s) (ex1:= .normal) c3 c5 hp;obtain ⟨rfl,_⟩:=hp
     cases ex1 with
     | normal=>simp only [hx,HI] at hv;cases hv
     | ret=>obtain ⟨rfl,rfl⟩:=stop (by simp);exact ao
     | exit id=>obtain ⟨rfl,rfl⟩:=stop (by simp);exact ao
   | succ j ihj=>
    intro hj s ex s' hv;simp only [bI] at hv
    cases hx:bI O.prog O.aU (ev O.prog O.aU (j+1)) x' (bH ((O.hint h).live l) s) with
    | none=>simp [hx] at hv
    | some q=>
     obtain ⟨ex1,s1⟩:=q;have stop:ex1≠.normal->ex=ex1/\s'=s1:=by
      intro dS;rw [hx] at hv
      cases ex1 with
      | normal=>exact absurd rfl dS
      | ret=>simp only [yc,yk] at hv;exact ⟨hv.1.symm,hv.2.symm⟩
      | exit id=>simp only [yc,yk] at hv;exact ⟨hv.1.symm,hv.2.symm⟩
     have more:∃K,ex1= .normal->∀(ro:Option Nat) (lo:Nat) (m:Mp) (S:Nat->Prop) (w:yh) (a:Act),sW ro w->cp O m S w s1.tm a.tmps->aZ O m S w s1.hp s1.ct->s1.base<=s1.ct->(O.hint h).n<=a.tmps.size->O.w0.heap.size<=lo->lo<=w.heap.size->Marks lo S w a.defers->
       Code.roundsIn (WF ro) 0 O.P x (eP O m S w s1 ex s' a.tmps.size lo) K a w:=by
      cases ex1 with
      | normal=>
       rw [hx] at hv;have eF:ev O.prog O.aU (j+1) (.loop ((O.hint h).live l) x') s1=some (ex,s'):=hv;rw [HJ] at eF;obtain ⟨K,hK⟩:=ihj (by omega) s1 ex s' eF;exact ⟨K,fun _=>hK⟩
      | ret=>exact ⟨0,fun h=>by cases h⟩
      | exit id=>exact ⟨0,fun h=>by cases h⟩
     obtain ⟨K,hK⟩:=more;refine ⟨K+1,fun ro lo m S w a da ht hh hb hn bn fj cQ=>?_⟩;rw [roundsIn_succ];obtain ⟨m1,c1,c2,c3,c4,c5⟩:=PK (live:=(O.hint h).live l) ht hh hb;have h1:=ih (l+1) k (j+1) hj _ ex1 s1 (by rw [rZ];exact hx) ro lo m1 S w a da c1 c2 (by rw [c3];exact c4) hn bn fj cQ
     refine wpIn_mono h1 ?_;rintro e a1 w1 hp;have ao:=eP.then (O:=O) (m:=m) (S:=S) (w:=w) (s:=s) (ex1:= .normal) c3 c5 hp;obtain ⟨rfl,_⟩:=hp
     cases ex1 with
     | normal=>
      simp only [pX,Exit.then];obtain ⟨_,m2,S2,g1,g2,g3,g4,g5,g6,g7⟩:=ao;have h2:=hK rfl ro lo m2 S2 w1 a1 (K5 g5 da) g1 g2 (by rw [g3];exact g4) (by rw [g6];exact hn) bn (xi fj g5.size) g7
      rw [g6] at h2;revert h2;generalize hA:a.tmps.size=sz;intro h2;have step:∀(K:Nat) (a':Act) (w':yh),Code.roundsIn (WF ro) 0 O.P x (eP O m2 S2 w1 s1 ex s' sz lo) K a' w'->Code.roundsIn (WF ro) 0 O.P x (eP O m S w s ex s' sz lo) K a' w':=by
       intro K
       induction K with
       | zero=>intro a' w' BH;exact BH
       | succ K ihK=>
        intro a' w' BH;rw [roundsIn_succ] at BH ⊢;refine wpIn_mono BH (fun e a'' C7 hq=>?_)
        cases e with
        | normal=>exact ihK a'' C7 hq
        | exit id=>exact eP.then (ex1:= .normal) g3 g5 hq
        | goto x=>exact eP.then (ex1:= .normal) g3 g5 hq
        | ret=>exact eP.then (ex1:= .normal) g3 g5 hq
        | panic x=>exact eP.then (ex1:= .normal) g3 g5 hq
        | outgrown=>exact eP.then (ex1:= .normal) g3 g5 hq
      exact step K a1 w1 h2
     | ret=>obtain ⟨rfl,rfl⟩:=stop (by simp);exact ao
     | exit id=>obtain ⟨rfl,rfl⟩:=stop (by simp);exact ao
  obtain ⟨K,hK⟩:=rounds j hj s ex s' hv;intro ro lo m S w a da ht hh hb hn bn fj cQ;exact wpIn_loop_rounds K (hK ro lo m S w a da ht hh hb hn bn fj cQ)
 | scope x ih=>
  intro l k j hj s ex s' hv ro lo m S w a da ht hh hb hn bn fj cQ;simp only [comp] at hv;exact aix (ih l k j hj s ex s' hv ro lo m S w a da ht hh hb hn bn fj cQ) (fun l a w=>eP.none l)
 | rangeFunc f ps as_ body iha ihb=>
  intro l k j hj s ex s' hv;simp only [comp] at hv;generalize rZ:comp O.P (O.hint h) as_ l k=qx at hv;obtain ⟨x',l1,k1⟩:=qx;simp only at hv;generalize JO:comp O.P (O.hint h) body l1 k1=qy at hv;obtain ⟨y',l2,k2⟩:=qy;simp only at hv
  cases ha:ze (O.hint h).n ps.toList with
  | false=>rw [ha] at hv;exact (SI hv).elim
  | true=>
   rw [ha] at hv;exact asq hO (hC j hj) ⟨l,k,by rw [rZ]⟩ ⟨l1,k1,by rw [JO]⟩ ha hv
end
end
section
open Go
section
variable {O:bw} {m:Mp} {S:Nat->Prop} {w:yh}
def YM:∀(vals:List AV) (j i:Nat),af (fp j vals) (j+i)=vals.getD i .undef
 | [],j,i=>by simp [fp,af]
 | v::r,j,i=>by
  cases i with
  | zero=>simp [fp,af]
  | succ i=>
   simp only [fp,af];have hb:yr j (j+(i+1))=false:=by
    cases hq:yr j (j+(i+1)) with
    | false=>rfl
    | true=>have:=yo hq;omega
   rw [hb,show j+(i+1)=j+1+i by omega];rw [YM r (j+1) i]
   simp
def YN {vals:List AV} {args:Array ye} (n:Nat) (h:au O.ah m S w vals args.toList):cp O m S w (fp 0 vals) (args++vE n undef):=by
 intro i
 have:=YM vals 0 i
 rw [yd] at this;rw [this,List.getD_eq_getElem?_getD]
 cases hv:vals[i]? with
 | none=>simp only [Option.getD_none,aj]
 | some v=>
  obtain ⟨u,h1,h2⟩:=Qq h hv;have hl:i<args.size:=by
   grind
  have:(args++vE n undef).getD i undef=u:=by
   rw [wT,Array.getElem?_append_left hl]
   grind
  grind
def EJ (tmps:Array ye):ybF->Sem ye
 | .tmp t=>pure (tmps.getD t undef)
 | .cell a t=>do loadVar t (<-asAddr (tmps.getD a undef))
def aiy (fn:tn) (tmps:Array ye):results fn tmps=(do let vs <-fn.results.mapM (EJ tmps);pure (if h:vs.size=1 then vs[0] else .tuple vs)):=by
 rfl
def PM {s:St} {ct:Nat} {tmps:Array ye} (hh:aZ O m S w s.hp ct) (ht:cp O m S w s.tm tmps):∀{rs:List ybF} {rv:List RV} {vs:List AV},ow O.P rs=some rv->lj s rv=some vs->
  ∃us,(rs.mapM (EJ tmps)).run O.P w= .ok us w/\au O.ah m S w vs us
 | [],rv,vs,h1,h2=>by
  simp only [ow,yc] at h1;subst h1;simp only [lj,yc] at h2;subst h2;exact ⟨[],by simp,by simp [au]⟩
 | .tmp t::rs,rv,vs,h1,h2=>by
  simp only [ow] at h1
  cases hc:ow O.P rs with
  | none=>simp [hc] at h1
  | some l=>
   simp only [hc,yc] at h1;subst h1;simp only [lj,results1] at h2
   cases hl:lj s l with
   | none=>simp [hl] at h2
   | some Uh=>
    simp only [hl,yc] at h2;subst h2;obtain ⟨us,g1,g2⟩:=PM hh ht hc hl;refine ⟨tmps.getD t undef::us,?_,by simp only [au];exact ⟨_,_,rfl,ht t,g2⟩⟩
    rw [vM];simp only [EJ,Sem.run_bind,Sem.run_pure,Result.andThen_ok];rw [g1];rfl
 | .cell a t::rs,rv,vs,h1,h2=>by
  simp only [ow] at h1
  cases hz:cP O.P t with
  | none=>simp [hz] at h1
  | some sz=>
   cases JP:dW O.P t with
   | none=>simp [hz,JP] at h1
   | some ag=>
    cases hc:ow O.P rs with
    | none=>simp [hz,JP,hc] at h1
    | some l=>
     simp only [hz,JP,hc,yc] at h1;subst h1;simp only [lj] at h2
     cases cw:results1 s (.cell a sz ag) with
     | none=>simp [cw] at h2
     | some v=>
      cases hl:lj s l with
      | none=>simp [cw,hl] at h2
      | some Uh=>
       simp only [cw,hl,yc] at h2;subst h2;obtain ⟨us,g1,g2⟩:=PM hh ht hc hl;have ra:=ht a;have key:∃b o u,tmps.getD a undef= .pointer (some ⟨b,o,none⟩)/\(loadVar t ⟨b,o,none⟩).run O.P w= .ok u w/\aj O.ah m S w v u:=by
        simp only [results1] at cw;cases hta:af s.tm a<;>rw [hta] at cw ra<;>simp only [reduceCtorEq] at cw
        ·rename_i id o;simp only [aj] at ra;obtain ⟨p,hm,hp⟩:=ra
         cases hg:ap s.hp id with
         | none=>simp [hg] at cw
         | some ob=>
          cases ob<;>simp only [hg,reduceCtorEq] at cw
          have UM:=Qp (o:=0) (n:=0) hh hg hm;obtain ⟨u,q1,q2⟩:=LK hz JP (qM o _ p.b p.o UM) cw;exact ⟨p.b,p.o+o,u,hp,q1,q2⟩
        ·rename_i cs;simp only [aj] at ra;obtain ⟨b,o,hp,_,_,UM⟩:=ra;obtain ⟨u,q1,q2⟩:=LK hz JP UM cw;exact ⟨b,o,u,hp,q1,q2⟩
       obtain ⟨b,o,u,q1,q2,q3⟩:=key;refine ⟨u::us,?_,by simp only [au];exact ⟨_,_,rfl,q3,g2⟩⟩
       rw [vM]
       have:(EJ tmps (.cell a t)).run O.P w= .ok u w:=by
        simp only [EJ];rw [q1];simp [asAddr,q2]
       rw [Sem.run_bind,this,Result.andThen_ok,Sem.run_bind,g1];rfl
def ahU {s:St} {ct:Nat} {tmps:Array ye} {fn:tn} {rv:List RV} {v:AV} (hh:aZ O m S w s.hp ct) (ht:cp O m S w s.tm tmps) (h1:ow O.P fn.results.toList=some rv) (h2:gh s rv=some v):
  ∃u,(results fn tmps).run O.P w= .ok u w/\aj O.ah m S w v u:=by
 unfold gh at h2
 cases hl:lj s rv with
 | none=>simp [hl] at h2
 | some vs=>
  obtain ⟨us,g1,g2⟩:=PM hh ht h1 hl;have hlen:=iF _ _ g2;have hm:(fn.results.mapM (EJ tmps)).run O.P w= .ok us.toArray w:=by
   rw [Array.mapM_eq_mapM_toList];simp [g1]
  have fC:(results fn tmps).run O.P w= .ok (if h:us.toArray.size=1 then us.toArray[0] else .tuple us.toArray) w:=by
   rw [aiy,Sem.run_bind,hm];rfl
  rw [hl] at h2
  split at h2
  ·rename_i v' nY;simp only [yc] at nY h2;subst nY;simp only [au] at g2
   grind
  ·rename_i eh dS nY;simp only [yc] at nY h2;subst nY;subst h2;have h1:¬us.toArray.size=1:=by
    intro h
    have:vs.length=1:=by simp_all
    cases vs with
    | nil=>simp at this
    | cons x t=>
     cases t with
     | nil=>exact dS x rfl
     | cons y t=>simp at this
   simp only [aj]
   grind
  ·grind
def P8 {s:St} {tmps:Array ye} {fn:tn} {rv:List RV} {v:AV} {m0:Mp} {S0:Nat->Prop} {w0:yh} {hp0:Hp} {Oq:Nat} (h1:ow O.P fn.results.toList=some rv) (h2:gh s rv=some v) (fE:Oq<=s.ct):∀(rs:List Nat) (w:yh),
  rs.Nodup->(∀r,r∈rs->w.heap[r]? =some (.deferred (some []))/\¬S r/\w0.heap.size<=r)->O.w0.heap.size<=w0.heap.size->aZ O m S w s.hp s.ct->cp O m S w s.tm tmps->cu m0 S0 w0 hp0 m S w s.hp Oq->
  ybH Fence.wide 0 O.P fn tmps (sH O m0 S0 w0 hp0 Oq v s.hp s.ct) (rs.map (fun r=>{target:= .collected r,args:=#[]})) .returning w
 | [],w,_,_,_,hh,ht,hf=>by
  obtain ⟨u,g1,g2⟩:=ahU hh ht h1 h2;exact ⟨u,g1,u,m,S,rfl,hh,fE,g2,hf⟩
 | r::rs,w,lP,hr,bn,hh,ht,hf=>by
  obtain ⟨ie,ew⟩:=List.nodup_cons.1 lP;obtain ⟨a1,a2,a3⟩:=hr r List.mem_cons_self;have fH:=DJ w r (.deferred none);have nV:¬ej m s.hp r:=fun ho=>ZG hh ho _ a1
  have BH:=XV hh fH a2 nV (xi bn a3)
  have bf:fO S w {w with heap:=w.heap.setIfInBounds r (.deferred none)}:=fun b hb=>fH.other b (fun e=>a2 (e▸hb))
  have nS:cu m0 S0 w0 hp0 m S {w with heap:=w.heap.setIfInBounds r (.deferred none)} s.hp Oq:=by
   refine ⟨hf.os,hf.tape,hf.output,by rw [fH.size];exact hf.size,fun b hb ho=>(fH.other b (by omega)).trans (hf.same b hb ho),hf.sub,fun b hb=>(fH.other b (fun e=>a2 (e▸hf.sub b hb))).trans (hf.still b hb),hf.new,hf.own,hf.old,fun b x hb=>?_⟩
   obtain ⟨x',hx⟩:=hf.loops b x hb;exact ⟨x',(fH.other b (fun e=>by subst e;rw [a1] at hx;cases hx)).trans hx⟩
  refine ⟨by simp,.inl ⟨r,_,rfl,?_,P8 h1 h2 fE rs _ ew (fun r' bX=>?_) bn BH (Ay (fun _ _ h=>h) (fun _ h=>h) bf ht) nS⟩⟩
  ·simp only [Instr.takeDeferred,Sem.run_bind,XW (P:=O.P) a1 (fun _ _ _=>by simp),Result.andThen_ok,KR (P:=O.P) a1 (fun _ _ _=>by simp),Sem.run_pure]
  ·obtain ⟨b1,b2,b3⟩:=hr r' (List.mem_cons_of_mem _ bX);exact ⟨(fH.other r' (fun e=>ie (e▸bX))).trans b1,b2,b3⟩
end
section
variable {O:bw} {self:cJ}
def ass (hO:eH O) (hS:∀v s ex s',self v s=some (ex,s')->∀c h l k,(comp O.P (O.hint h) c l k).1=v->A1 O h c s ex s') {n:Nat} {F:aI} (hF:O.prog n=some F) {hp:Hp} {ct:Nat} {vals:List AV} {ex:Ex} {s:St}
  (hv:self F.body ⟨fp 0 vals,hp,ct,ct⟩=some (ex,s)) (hex:ex= .normal\/ex= .ret) {v:AV} (hr:gh s F.dn=some v):A0 O n hp ct vals v s.hp s.ct:=by
 intro m S w args hh gL;obtain ⟨fn,q1,q2,q3⟩:=hO.prog n F hF;obtain ⟨c,q4,q5,q6,q7⟩:=Pz q2;refine .inl ⟨Ls q1 (by rw [q4];rfl) q3,?_⟩
 have hc:=hS _ _ _ _ hv c n 0 0 q5.symm;have hw:=hc none w.heap.size m S w {tmps:=args++vE (fn.ntmps-args.size) undef,defers:=[]} (fun l hl=>by cases hl) (YN _ gL) hh (yD _) (by simp;omega) hh.fP (yD _) ⟨[],rfl,by simp,by simp⟩
 refine callsIn_of_wp_marks (F:=Fence.wide) q1 q4 trivial (wpIn_mono hw ?_);rintro e a' w' ⟨rfl,m',S',k1,k2,k3,k4,k5,k6,rs,k7,k8,k9⟩;have main:ybH Fence.wide 0 O.P fn a'.tmps (sH O m S w hp ct v s.hp s.ct) a'.defers .returning w':=by
  rw [k7];exact P8 q6 hr k4 rs w' k8 k9 hh.fP k2 k1 k5
 rcases hex with rfl | rfl
 ·exact main
 ·exact main
def AK.mono {P:y5} {f:tJ} {args:Array ye} {w:yh} {R R':Ending->yh->Prop} (h:AK P f args w R) (hr:∀e w',R e w'->R' e w'):AK P f args w R':=by
 rcases h with ⟨h1,h2⟩ | ⟨u,w',h1,h2⟩
 ·exact .inl ⟨h1,CallsIn.mono h2 hr⟩
 ·exact .inr ⟨u,w',h1,hr _ _ h2⟩
def ajI {w:yh} {S:Nat->Prop} (hg:AZ O w) (hs:∀b,S b->b<w.heap.size):aZ O eZ S w [] 0:=
 ⟨(fun id o p h _=>by simp [ap] at h),(fun id p h=>by cases h),(fun i j oi oj pi pj h=>by simp [ap] at h),hs,(fun id p h=>by cases h),(fun id p h=>by cases h),hg.1,hg.2,(fun id o h=>by simp [ap] at h)⟩
def QA {b:Nat} (h:ej eZ [] b):False:=by
 obtain ⟨_,_,_,h,_⟩:=h;simp [ap] at h
def Pw {n:Nat} {vals:List AV} {v r:AV} {s:St} (h:A0 O n [] 0 vals v s.hp s.ct) (hr:result s.hp v=some r):eN O n vals r:=by
 intro w S args hg hs gL hp;refine AK.mono (h eZ S w args (ajI hg hs) gL) ?_;rintro e w' ⟨u,m',S',rfl,k1,k2,k3,k4⟩;have bn:∀b,ej m' s.hp b->w.heap.size<=b:=fun b hb=>(k4.own b hb).elim (fun h=>(QA h).elim) (fun h=>h)
 obtain ⟨S2,g1,g2,g3,g4⟩:=ajz (lo:=w.heap.size) k1 hr k3 bn;refine ⟨u,S2,rfl,⟨k4.os,k4.tape,k4.output,k4.size,fun b hb=>k4.same b hb QA⟩,fun b hb=>g1 b (k4.sub b hb),fun b hb=>?_,g3,g4⟩;rcases g2 b hb with h | h
 ·rcases k4.new b h with h | h | h
  ·exact .inl h
  ·exact (QA h).elim
  ·exact .inr h
 ·exact .inr (bn b h)
def aiz (hO:eH O) (hS:∀v s ex s',self v s=some (ex,s')->∀c h l k,(comp O.P (O.hint h) c l k).1=v->A1 O h c s ex s'):nv O self:=by
 have heap:∀(n:Nat) (F:aI),O.prog n=some F->∀(hp:Hp) (ct:Nat) (vals:List AV) (ex:Ex) (s:St) (v:AV),self F.body ⟨fp 0 vals,hp,ct,ct⟩=some (ex,s)->(ex= .normal\/ex= .ret)->gh s F.dn=some v->A0 O n hp ct vals v s.hp s.ct:=
  fun n F hF hp ct vals ex s v h1 h2 h3=>ass hO hS hF h1 h2 h3
 refine ⟨?_,?_,fun hp ct l xs v ao bh hv=>alG hS hv⟩
 ·intro n vals r hv;unfold bR at hv
  cases hL:O.aU.pure n with
  | some sp=>rw [hL] at hv;exact hO.aU n sp vals r hL hv
  | none=>
   simp only [hL] at hv
   cases hF:O.prog n with
   | none=>simp [hF] at hv
   | some F=>
    simp only [hF] at hv
    split at hv
    ·rename_i s hb
     cases hr:gh s F.dn with
     | none=>simp [hr] at hv
     | some v=>simp only [hr] at hv;exact Pw (heap n F hF [] 0 vals .normal s v hb (.inl rfl) hr) hv
    ·rename_i s hb
     cases hr:gh s F.dn with
     | none=>simp [hr] at hv
     | some v=>simp only [hr] at hv;exact Pw (heap n F hF [] 0 vals .ret s v hb (.inr rfl) hr) hv
    ·cases hv
 ·intro hp ct n vals v ao bh hv;unfold ik at hv
  cases hL:O.aU.heap n with
  | some sp=>rw [hL] at hv;exact hO.EH n sp hp ct vals v ao bh hL hv
  | none=>
   simp only [hL] at hv
   cases hF:O.prog n with
   | none=>simp [hF] at hv
   | some F=>
    grind
def Xr (hO:eH O):∀n,nv O (ev O.prog O.aU n):=by
 intro n
 induction n using Nat.strongRecOn with
 | _ n ih=>
  refine aiz hO (fun v s ex s' hv c h l k hc=>?_)
  cases n with
  | zero=>rw [HI] at hv;cases hv
  | succ n=>
   rw [HJ,<-hc] at hv;exact aaL hO n (fun k hk=>ih k (by omega)) h c l k n (yD _) s ex s' hv
def sound (hO:eH O) {n f:Nat} {vals:List AV} {r:AV} (h:Ui O.prog O.aU n f vals=some r):eN O f vals r:=(Xr hO n).pure f vals r h
end
end
end VE
