import Derived.LoopNIn
import Derived.RangeFuncIn
import Derived.Test.YtflgmingejdfnaaGreatDoorUaf
import Derived.Test.YtflgmingejdfnaaGreatDoorUaa
set_option linter.all false
set_option maxRecDepth 100000
open Array renaming getD_eq_getD_getElem?→wV,getElem?_eq_some_iff→xy,replicate→vJ
open Bool renaming and_eq_true→yg
open Go renaming Code→wM,Deferred→ybP,Exit→uQ,Func→tC,FuncId→tQ,LeavesInM→ybZ,Loop→uz,Oper→yY,Program→y7,ResultVar→ybX,Value→yf,World→yh
open List renaming mapM_cons→vT
open Nat renaming beq→yx,eq_of_beq_eq_true→yo,le_refl→yB,le_trans→xp,zero_add→yd,zero_le→tK
open Option.some renaming injEq→yc
open Prod.mk renaming injEq→yk
namespace VE
section
open Go
def ale {F:Fence} {n:Nat} {P:y7} {Q:uQ->Act->yh->Prop} {a:Act} {w:yh} {c:wM} (h:c.wpIn F n P Q a w) (hg:∀l a w,¬Q (.goto l) a w):(Code.scope c).wpIn F n P Q a w:=by
 intro b k cs dF hb hr;have h0:(lone (b.atR a (.code (.scope c)::k)) cs w).fenced P F:=fenced_calm hb hr rfl;have s0:step P (lone (b.atR a (.code (.scope c)::k)) cs w)= .next (lone (b.atR a (.code c:: .inScope c::k)) cs w):=step_lone_go (by simp [stepG,stepG.exec,Frame.atR]);obtain ⟨e,a₁,w₁,hq,Ee⟩:=h b (.inScope c::k) cs dF hb hr;have hx:∀id,exitTo id (.inScope c::k)=exitTo id k:=fun id=>by simp [exitTo]
 cases e with
 | normal=>
  have s1:step P (lone (b.atR a₁ (.inScope c::k)) cs w₁)= .next (lone (b.atR a₁ k) cs w₁):=step_lone_go (by simp [stepG,stepG.exec,Frame.atR]);exact ⟨.normal,a₁,w₁,hq,.head h0 s0 (StepsIn.trans Ee (.one (fenced_calm hb hr rfl) s1))⟩
 | exit id=>
  exact ⟨.exit id,a₁,w₁,hq,fun k' hk=> .head h0 s0 (Ee.1 k' (by rw [hx];exact hk)),fun bW hk=>let ⟨k₁,h1,h2⟩:=Ee.2 bW (by rw [hx];exact hk);⟨k₁,h1,.head h0 s0 h2⟩⟩
 | goto l=>exact (hg _ _ _ hq).elim
 | ret=>exact ⟨_,a₁,w₁,hq,.of_steps (.one h0 s0) Ee⟩
 | panic ch=>exact ⟨_,a₁,w₁,hq,.of_steps (.one h0 s0) Ee⟩
 | outgrown=>exact ⟨_,a₁,w₁,hq,.of_steps (.one h0 s0) Ee⟩
def rJ:Ex->uQ
 | .normal=> .normal
 | .ret=> .ret
 | .exit id=> .exit id
def Marks (lo:Nat) (S:Nat->Prop) (w:yh) (ds:List ybP):Prop:=∃rs:List Nat,ds=rs.map (fun r=>{target:= .collected r,args:=#[]})/\rs.Nodup/\
 ∀r,r∈rs->w.heap[r]? =some (.deferred (some []))/\¬S r/\lo<=r
def Au (ro:Option Nat) (w:yh):Prop:=∀l,ro=some l->∃r:uz,w.heap[l]? =some (.loop r)
section
variable {O:bD} {m:Mp} {S:Nat->Prop} {w:yh} {hp:Hp} {ct:Nat}
def ab4 (hh:bg O m S w hp ct) {b:Nat} (h:eL m hp b):∀x,w.heap[b]?≠some (.deferred x):=by
 intro x hx;obtain ⟨id,o,p,h1,h2,rfl⟩:=h;have h3:=hh.obj id o p h1 h2
 cases o with
 | cells rw pu ex sz cs=>obtain ⟨q,arr,t,g1,g2,_⟩:=h3;rw [h2] at g1;injection g1 with g1;subst g1;rw [hx] at g2;cases g2
 | mp rw ks vs=>obtain ⟨q,es,clock,g1,g2,_⟩:=h3;rw [h2] at g1;injection g1 with g1;subst g1;rw [hx] at g2;cases g2
 | si s pos=>obtain ⟨q,t,g1,g2,_⟩:=h3;rw [h2] at g1;injection g1 with g1;subst g1;rw [hx] at g2;cases g2
 | lp tm ps as_ body st pe=>obtain ⟨q,l,hi,g1,g2,_⟩:=h3;rw [h2] at g1;injection g1 with g1;subst g1;rw [hx] at g2;cases g2
def BP (hh:bg O m S w hp ct) {m':Mp} {S':Nat->Prop} {w':yh} {ao:Hp} {base lo:Nat} (hf:cG m S w hp m' S' w' ao base) {ds:List ybP} (h:Marks lo S w ds):Marks lo S' w' ds:=by
 obtain ⟨rs,h1,h2,h3⟩:=h;refine ⟨rs,h1,h2,fun r hr=>?_⟩;obtain ⟨this,h4,h5⟩:=h3 r hr;have bm:=(xy.1 this).1;have pg:¬eL m hp r:=fun ho=>ab4 hh ho _ this
 refine ⟨(hf.same r bm pg).trans this,fun hs=>?_,h5⟩;rcases hf.new r hs with h | h | h
 ·grind
 ·grind
 ·omega
def No {m':Mp} {S':Nat->Prop} {w':yh} {ao:Hp} {base:Nat} {ro:Option Nat} (hf:cG m S w hp m' S' w' ao base) (h:Au ro w):Au ro w':=fun l hl=>
 let ⟨r,hr⟩:=h l hl
 hf.loops l r hr
def fj (O:bD) (m:Mp) (S:Nat->Prop) (w:yh) (s:St) (ex:Ex) (s':St) (n lo:Nat) (e:uQ) (a':Act) (w':yh):Prop:=
 e=rJ ex/\∃m' S',cF O m' S' w' s'.tm a'.tmps/\bg O m' S' w' s'.hp s'.ct/\s'.base=s.base/\s.base<=s'.ct/\cG m S w s.hp m' S' w' s'.hp s.base/\a'.tmps.size=n/\Marks lo S' w' a'.defers
def Cj (O:bD) (h:Nat) (c:wM) (s:St) (ex:Ex) (s':St):Prop:=
 ∀(ro:Option Nat) (lo:Nat) (m:Mp) (S:Nat->Prop) (w:yh) (a:Act),Au ro w->cF O m S w s.tm a.tmps->bg O m S w s.hp s.ct->s.base<=s.ct->(O.hint h).n<=a.tmps.size->O.w0.heap.size<=lo->lo<=w.heap.size->Marks lo S w a.defers->
  c.wpIn (WF ro) 0 O.P (fj O m S w s ex s' a.tmps.size lo) a w
structure eP (O:bD):Prop where
 hint:∀h,gl O (O.hint h)
 mixed:O.P.follows .mixedOrders=true
 prog:∀n F,O.prog n=some F->∃fn,O.P.funcs[O.ai n]? =some fn/\FQ O.P (O.hint n) fn=some F/\fn.name≠ "runtime.NumGoroutine"
 aU:∀n sp vals r,O.aU.pure n=some sp->sp vals=some r->eX O n vals r
 GD:∀n sp hp ct vals v ao bj,O.aU.heap n=some sp->sp hp ct vals=some (v,ao,bj)->Ci O n hp ct vals v ao bj
def NK {P:y7} {H:Hint} {ops:Array yY}:∀(rs:List br) (l:List yY) (done:List br) (ms:List Nat),nU P H ops rs l->nU P H ops (AF done rs ms) l
 | [],l,done,ms,h=>by
  cases ms<;>simpa only [AF] using h
 | r::rs,[],done,ms,h=>by simp [nU] at h
 | r::rs,o::l,done,[],h=>by
  obtain ⟨d,g,op⟩:=r;cases op<;>simpa only [AF] using h
 | r::rs,o::l,done,m::ms,h=>by
  obtain ⟨h1,h2⟩:=h;obtain ⟨d,g,op⟩:=r
  cases op with
  | iE Qv f xs=>
   refine ⟨?_,NK rs l _ ms h2⟩;rcases h1 with h1 | ⟨_,h1⟩
   ·refine .inl ⟨?_,h1.dst,h1.ok,h1.guard⟩;obtain ⟨c,f',g1,g2,g3,g4⟩:=S5 h1.op;rw [g3,g4];exact .inr (.inl ⟨c,f',_,g1,g2,rfl⟩)
   ·simp [bad] at h1
  | st sz x y=>
   refine ⟨?_,NK rs l _ ms h2⟩;rcases h1 with h1 | ⟨_,h1⟩
   ·refine .inl ⟨?_,h1.dst,h1.ok,h1.guard⟩;unfold stOp
    split
    ·exact h1.op
    ·obtain ⟨t,x',y',g1,g2,g3,g4⟩:=avy h1.op;exact .inr (.inr ⟨t,x',y',sz,_,g1,g2,by rw [g3,g4]⟩)
   ·simp [bad] at h1
  | _=>
   exact ⟨h1,NK rs l _ ms h2⟩
end
section
variable {O:bD} {self:cT}
def ab5 {P:y7} {H:Hint} {ops:Array yY}:∀{rs:List br} {l:List yY},nU P H ops rs l->rs.length=l.length/\∀(i:Nat) (r:br) (o:yY),rs[i]? =some r->l[i]? =some o->OF P H ops r o\/(r.guard=none/\r.op=bad)
 | [],[],_=>⟨rfl,fun i r o h=>by simp at h⟩
 | [],_::_,h=>by simp [nU] at h
 | _::_,[],h=>by simp [nU] at h
 | r::rs,o::l,h=>by
  obtain ⟨h1,h2⟩:=ab5 h.2;refine ⟨by simp [h1],fun i r' o' hr ho=>?_⟩
  cases i with
  | zero=>simp at hr ho;subst hr;subst ho;exact h.1
  | succ i=>exact h2 i r' o' (by simpa using hr) (by simpa using ho)
def amn {m:Mp} {S:Nat->Prop} {w:yh} {hp:Hp} {ct:Nat} (hh:bg O m S w hp ct):Calm w {w with drawn:=w.drawn+1}:=⟨rfl,rfl,rfl,yB _,fun _ _=>rfl⟩
def asT (hO:eP O) (hC:oG O self) (h:Nat) (id:Nat) (ops:Array yY) (draw:Bool) (k:Nat) {s s':St} (hv:ej O.prog O.aU self (NZ O.P (O.hint h) ops draw k).1 s=some s'):Cj O h (.region id ops draw) s .normal s':=by
 intro ro lo m S w a dF ht hh hb hn bt fJ dc;unfold NZ at hv;have Qz:=aae (P:=O.P) (H:=O.hint h) (ops:=ops) ops.toList k;generalize hq:DF O.P (O.hint h) ops ops.toList k=q at hv Qz;obtain ⟨l,k'⟩:=q;simp only at hv Qz;have post:∀{a':Act} {m':Mp} {S':Nat->Prop} {w':yh},bg O m' S' w' s'.hp s'.ct->s.ct<=s'.ct->cF O m' S' w' s'.tm a'.tmps->cG m S w s.hp m' S' w' s'.hp s.ct->a'.tmps.size=a.tmps.size->a'.defers=a.defers->s'.base=s.base->fj O m S w s .normal s' a.tmps.size lo .normal a' w':=by
  intro a' m' S' w' h1 h2 h3 h4 h5 h6 h7;exact ⟨rfl,m',S',h3,h1,h7,by omega,h4.zh hb,h5,by rw [h6];exact BP hh h4 dc⟩
 cases draw with
 | false=>
  simp only [yD] at hv;refine wpIn_region ?_;rw [List.range_eq_range'];have hl:ops.size=ops.toList.length:=by simp
  rw [hl];exact adh hC (hO.hint h) ops.toList l 0 s s' a m S w (fun j=>by simp) Qz hv ht hh hn (fun a' m' S' w' h1 h2 h3 h4 h5 h6 h7=>post h1 h2 h3 h4 h5 h6 h7)
 | true=>
  simp only [ym] at hv
  cases rT:(Jj ops.toList 0&&FG [] (AF [] l (nk [] ops.toList)) (nk [] ops.toList)) with
  | false=>
   rw [rT] at hv;simp [ej,bad,bC,dR,aC] at hv
  | true=>
   rw [rT] at hv;simp only [ym] at hv;simp only [yg] at rT;have ahw:=NK l ops.toList [] (nk [] ops.toList) Qz;generalize AF [] l (nk [] ops.toList)=rs at hv rT ahw;obtain ⟨hlen,ap⟩:=ab5 ahw;obtain ⟨cD,cd,bR,vF,hR,e1,e2,e3,e4,e5,e6,e7⟩:=adi hv;have hG:za O (O.hint h) self ops rs cD cd bR vF:=by
    refine ⟨hR,by rw [hlen];simp,fun i r o hr ho=>?_,fun i j x y W9 hx hy=>?_,fun i o ho e he hbd=>?_⟩
    ·rcases ap i r o hr (by simpa using ho) with g | ⟨g1,g2⟩
     ·grind
     ·have:=hR.step i r hr
      simp [fq,g1,pZ,g2,bad,bC,dR,aC] at this
    ·obtain ⟨mm,g1,g2⟩:=Zv (done:=[]) (i:=i) (j:=j) (a:=x) (b:=y) rT.2 (by simpa using hx) hy (by simpa using W9);refine g2.imp (fun g=>?_) (fun g=>by simpa using g);unfold Ord
     grind
    ·have:=Zn rT.1 (j:=i) (o:=o) (by simpa using ho) e he hbd
     omega
   refine wpIn_region_any hO.mixed ?_;have Ks:=amn hh;have jD:=Fw hh Ks (S':=S) (fun _ h=>h) (fun _ h=> .inl h) hh.slt
   have Hm:cG m S w s.hp m S {w with drawn:=w.drawn+1} s.hp (bR 0):=Dz hh Ks (fun _ h=>h) (fun _ h=> .inl h);obtain ⟨c,c1,c2,c3,c4⟩:=Up rs rs.length 0 (by omega);have hg:∀k',k'<=c->iU (cd 0) (bR 0) (cd (0+k')) (bR (0+k')):=fun k' qM=>
    Nl hR (by rw [e2,e3];exact hh.bm) k' (by omega) (fun j r g1 g2 hr=>JE hr (c3 j g1 (by omega)))
   have iM:=hg c (yB _);rw [yd] at iM;obtain ⟨S1,g1,g2,g3,g4⟩:=NH (by rw [e2,e3];exact jD:bg O m S {w with drawn:=w.drawn+1} (cd 0) (bR 0)) iM
   have sZ:∀i,(vJ ops.size false).getD i false=true->False:=fun i hi=>by
    simp only [wV] at hi
    grind
   refine asS (m0:=m) (S0:=S) (w0:=w) (n0:=a.tmps.size) (d0:=a.defers) hC (hO.hint h) hG hn (fun a' m' S' w' h1 h2 h3 h4 h5 h6=>?_) ops.size _ 0 c m S1 _ a (by simp) ?_ (fun j o _ hj=>(sZ j hj).elim) ?_
   ·rw [e5,e6] at h1;rw [e3,e6] at h2;rw [e4] at h3;rw [e2,e3,e5] at h4;exact post h1 h2 h3 h4 h5 h6 e7
   ·unfold left;rw [List.countP_eq_length.2]
    ·simp
    ·intro i hi;simp only [Bool.not_eq_true']
     cases hq:(vJ ops.size false).getD i false with
     | false=>rfl
     | true=>exact (sZ i hq).elim
   ·refine ⟨tK _,c2,fun i hi=>by omega,c3,c4.imp (fun h=>h) (fun h=>⟨h,fun hd=>sZ c hd⟩),fun i r _ _ _ hd=>sZ i hd,g1,fun id p hp=> .inl (by rw [e3];exact hh.lt id p hp),fun t=>⟨0,tK _,fun i r _ _=>⟨fun hd=>(sZ i hd).elim,fun h=>by omega⟩,?_⟩,?_,iM.qQ,rfl,rfl,.inl rfl,fun j hj=>?_⟩
    ·rw [e1];exact mY (fun _ _ h=>h) (fun b hb=>g2 b hb) (fun b hb=>Ks.same b (hh.slt b hb)) _ _ (ht t)
    ·rw [e2];have g5:=g4 (bR 0);rw [e2] at g5;exact Hm.trans g5
    ·have:=(hg j hj).lt
     rw [yd] at this;exact this
end
end
section
open Go
section
variable {O:bD} {m:Mp} {S:Nat->Prop} {w:yh} {hp:Hp} {ct:Nat}
def aah (hh:bg O m S w hp ct) {g:Nat} {w':yh} (hw:One w w' g) (hg:¬S g) (ho:¬eL m hp g) (bt:O.w0.heap.size<=g):bg O m S w' hp ct:=by
 have bh:gI S w w':=fun b hb=>hw.other b (fun e=>hg (e▸hb))
 refine ⟨fun id o p h1 h2=>?_,hh.lt,hh.inj,fun b hb=>by rw [hw.size];exact hh.slt b hb,fun id p h=>by rw [hw.size];exact hh.blt id p h,hh.low,fun b hb=>?_,by rw [hw.size];exact hh.gK,hh.bm⟩
 ·exact sI (fun _ _ h=>h) (fun _ h=>h) bh (fun q hq=>hw.other _ (fun e=>ho ⟨id,o,q,h1,hq,e⟩)) (fun _ _ h=>h) (hh.obj id o p h1 h2)
 ·rw [hw.other b (by omega)];exact hh.mG b hb
def aai {P:y7} {b:Nat} {o:Go.Obj} (h:w.heap[b]? =some o) (hc:∀c t f,o≠.cells c t f):(getObj b).run P w= .ok o w:=by
 simp only [getObj,Sem.run,h]
def M7 {P:y7} {b:Nat} {o x:Go.Obj} (h:w.heap[b]? =some o) (hc:∀c t f,o≠.cells c t f):(setObj b x).run P w= .ok () {w with heap:=w.heap.setIfInBounds b x}:=by
 simp only [setObj,Sem.run,h]
def I7 {P:y7} {b:Nat} {r:uz} (h:w.heap[b]? =some (.loop r)):(Instr.getLoop b).run P w= .ok r w:=by
 simp only [Instr.getLoop,Sem.run_bind,aai (P:=P) h (fun _ _ _=>by simp),Result.andThen_ok,Sem.run_pure]
def JF (hh:bg O m S w hp ct) {l:Nat} {tm:Env} {ps:List Nat} {as_ body:VC} {st:Nat} {pe:zg} {p:Pl} (hg:ap hp l=some (.lp tm ps as_ body st pe)) (hm:m l=some p):
  ∃(r:uz) (h:Nat),w.heap[p.b]? =some (.loop r)/\¬S p.b/\r.state=Ct st/\st<=2/\r.pending=At pe/\cF O m S w tm r.tmps/\r.params.toList=ps/\CS O.P (O.hint h) as_ r.assign/\CS O.P (O.hint h) body r.body/\
   (O.hint h).n<=r.tmps.size/\AG (O.hint h).n ps=true:=by
 obtain ⟨q,r,h,g1,g2,g3⟩:=hh.obj l _ p hg hm
 grind
def aa6 (hh:bg O m S w hp ct) {l:Nat} {tm:Env} {ps:List Nat} {as_ body:VC} {st:Nat} {pe:zg} {p:Pl} (hg:ap hp l=some (.lp tm ps as_ body st pe)) (hm:m l=some p) {r:uz} (hr:w.heap[p.b]? =some (.loop r))
  {st':Nat} {pe':zg} (h2:st'<=2):
  bg O m S {w with heap:=w.heap.setIfInBounds p.b (.loop {r with state:=Ct st',pending:=At pe'})} (bf hp l (.lp tm ps as_ body st' pe')) ct/\
  cG m S w hp m S {w with heap:=w.heap.setIfInBounds p.b (.loop {r with state:=Ct st',pending:=At pe'})} (bf hp l (.lp tm ps as_ body st' pe')) ct:=by
 obtain ⟨r',h,g1,g2,g3,g4,g5,g6,g7,g8,g9,g10,g11⟩:=JF hh hg hm;rw [hr] at g1;injection g1 with g1
 injection g1 with g1
 subst g1;have gA:=Fo w p.b (.loop {r with state:=Ct st',pending:=At pe'})
 refine Jv hh hg hm g2 gA ⟨p,{r with state:=Ct st',pending:=At pe'},h,hm,M3 hr,g2,rfl,h2,rfl,?_,g7,g8,g9,g10,g11⟩ (fun _ _=>⟨_,M3 hr⟩);exact BO (fun _ _ h=>h) (fun _ h=>h) (fun b hb=>gA.other b (fun e=>g2 (e▸hb))) g6
def aa7 {n:Nat}:∀{ps:List Nat} {vs:List AV} {us:List yf} {tm tm':Env} {tmps:Array yf},rB tm ps vs=some tm'->au O.ai m S w vs us->cF O m S w tm tmps->n<=tmps.size->AG n ps=true->
  ps.length=us.length/\cF O m S w tm' ((ps.zip us).foldl (fun t (x:Nat×yf)=>t.setIfInBounds x.1 x.2) tmps)/\((ps.zip us).foldl (fun t (x:Nat×yf)=>t.setIfInBounds x.1 x.2) tmps).size=tmps.size
 | [],[],us,tm,tm',tmps,h,hr,ht,hn,ha=>by
  simp only [rB,yc] at h;simp only [au] at hr
  simp_all
 | [],_::_,us,tm,tm',tmps,h,hr,ht,hn,ha=>by simp [rB] at h
 | _::_,[],us,tm,tm',tmps,h,hr,ht,hn,ha=>by simp [rB] at h
 | p::ps,v::vs,us,tm,tm',tmps,h,hr,ht,hn,ha=>by
  simp only [rB] at h;obtain ⟨u,t,rfl,h1,h2⟩:=hr;simp only [AG,yg] at ha;have hp:=An.1 ha.1;have QA:cF O m S w ((p,v)::tm) (tmps.setIfInBounds p u):=S8 (a:=⟨tmps,[]⟩) (d:=some p) ht (fun i hi=>by injection hi with hi;show i<tmps.size;omega) h1
  obtain ⟨g1,g2,g3⟩:=aa7 (n:=n) h h2 QA (by simpa using hn) ha.2
  simp_all
def aoj (ps:Array Tmp) (args:Array yf) (tmps:Array yf):(ps.zip args).foldl (fun tmps (x:Tmp×yf)=>tmps.setIfInBounds x.1 x.2) tmps=(ps.toList.zip args.toList).foldl (fun t (x:Nat×yf)=>t.setIfInBounds x.1 x.2) tmps:=by
 rw [<-Array.foldl_toList,Array.toList_zip]
def akp {P:y7} {b:Nat} {r:uz} (h:w.heap[b]? =some (.loop r)) (jump:Option wM):
  (Instr.endRound b jump).run P w= .ok (.bool jump.isNone) {w with heap:=w.heap.setIfInBounds b (.loop {r with state:=if jump.isNone then .ready else .done,pending:=jump})}:=by
 simp only [Instr.endRound,Sem.run_bind,I7 h,Result.andThen_ok,M7 (P:=P) h (fun _ _ _=>by simp),Sem.run_pure]
def akb {P:y7} {b:Nat} {r:uz} (h:w.heap[b]? =some (.loop r)) (hs:r.state= .ready):
  (Instr.beginRound b).run P w= .ok () {w with heap:=w.heap.setIfInBounds b (.loop {r with state:= .busy})}:=by
 simp only [Instr.beginRound,Sem.run_bind,I7 h,Result.andThen_ok,M7 (P:=P) h (fun _ _ _=>by simp),hs,Sem.run_pure]
def aok {self:cT} (hS:∀v s ex s',self v s=some (ex,s')->∀c h l k,(comp O.P (O.hint h) c l k).1=v->Cj O h c s ex s') {l:Nat} {xs:List AV} {v:AV} {ao:Hp} {bj:Nat}
  (hv:jq self hp ct l xs=some (v,ao,bj)):aes O hp ct l xs v ao bj:=by
 intro m S w args p hh hm iq;unfold jq at hv
 split at hv
 case h_2=>cases hv
 rename_i tm ps as_ body pe hg;obtain ⟨r,h,g1,g2,g3,g4,g5,g6,g7,⟨ca,ka,g8⟩,⟨cb,kb,g9⟩,g10,g11⟩:=JF hh hg hm
 cases hb:rB tm ps xs with
 | none=>simp [hb] at hv
 | some tm'=>
  simp only [hb] at hv;obtain ⟨b1,b2,b3⟩:=aa7 hb iq g6 g10 g11;rw [<-g7] at b1 b2 b3;have fk:args.size=r.params.size:=by
   grind
  let tmps:Array yf:=(r.params.zip args).foldl (fun tmps (x:Tmp×yf)=>tmps.setIfInBounds x.1 x.2) r.tmps
  have ahx:tmps=(r.params.toList.zip args.toList).foldl (fun t (x:Nat×yf)=>t.setIfInBounds x.1 x.2) r.tmps:=aoj _ _ _;refine ⟨r.fn,tmps,r.assign,r.body,?_,?_⟩
  ·simp only [Instr.yield,Sem.run_bind,I7 g1,Result.andThen_ok,fk,uZ,wD,yN,Sem.run_pure];rfl
  refine roundIn_of_wpIn (F:=Fence.wide) trivial ?_
  cases h1:self as_ ⟨tm',hp,ct,ct⟩ with
  | none=>simp [h1] at hv
  | some q=>
   obtain ⟨ex1,s1⟩:=q
   cases ex1 with
   | ret=>simp [h1] at hv
   | exit id=>simp [h1] at hv
   | normal=>
    simp only [h1] at hv;have eR:=hS _ _ _ _ h1 r.assign h ca ka g8;have dF:∀w',cG m S w hp m S w' hp ct->Au (some p.b) w':=fun w' hf=>No hf (fun l hl=>⟨r,by injection hl with hl;subst hl;exact g1⟩)
    refine wpIn_mono (eR (some p.b) w.heap.size m S w ⟨tmps,[]⟩ (dF w cG.refl) (by rw [ahx];exact b2) hh (yB _) (by show _<=tmps.size;rw [ahx,b3];exact g10) hh.gK (yB _) ⟨[],rfl,by simp,by simp⟩) ?_
    rintro e a1 w1 ⟨rfl,m1,S1,k1,k2,k3,k4,k5,k6,k7⟩;simp only [rJ,Exit.then];have rZ:m1 l=some p:=k5.old l p (hh.lt l p hm) hm
    split at hv
    case h_2=>cases hv
    rename_i iL zF EE D2 qJ iM;obtain ⟨r1,jD,f1,f2,f3,f4,f5,f6,f7,f8,f9,f10,f11⟩:=JF k2 iM rZ;have Xg:=akb (P:=O.P) f1 f3;obtain ⟨q1,q2⟩:=aa6 k2 iM rZ f1 (st':=1) (pe':=qJ) (by omega)
    have bS:({r1 with state:=Ct 1,pending:=At qJ}:uz)={r1 with state:= .busy}:=by rw [<-f5];rfl
    rw [bS] at q1 q2;refine ⟨_,Xg,?_⟩
    cases h2:self body ⟨s1.tm,bf s1.hp l (.lp iL zF EE D2 1 qJ),s1.ct,s1.ct⟩ with
    | none=>simp [h2] at hv
    | some q=>
     obtain ⟨ex,s2⟩:=q;simp only [h2] at hv;have zP:=hS _ _ _ _ h2 r.body h cb kb g9
     have aw6:Au (some p.b) {w1 with heap:=w1.heap.setIfInBounds p.b (.loop {r1 with state:= .busy})}:=fun l hl=>by
      grind
     have Xh:cF O m1 S1 {w1 with heap:=w1.heap.setIfInBounds p.b (.loop {r1 with state:= .busy})} s1.tm a1.tmps:=
      BO (fun _ _ h=>h) (fun _ h=>h) (fun b hb=>q2.still b hb) k1
     have aw7:(O.hint h).n<=a1.tmps.size:=by
      grind
     refine wpIn_mono (zP (some p.b) w.heap.size m1 S1 _ a1 aw6 Xh q1 (yB _) aw7 hh.gK (xp k5.size q2.size) (BP k2 q2 k7)) ?_;rintro e a2 w2 ⟨rfl,m2,S2,j1,j2,j3,j4,j5,j6,j7⟩;have pk:m2 l=some p:=j5.old l p (k2.lt l p rZ) rZ
     split at hv
     case h_2=>cases hv
     rename_i oZ CQ LA Kp pe2 nH;obtain ⟨r2,LS,d1,d2,d3,d4,d5,d6,d7,d8,d9,d10,d11⟩:=JF j2 nH pk;have aw8:cG m S w hp m2 S2 w2 s2.hp ct:=(k5.trans (q2.zh k4)).trans (j5.zh k4);have ahy:ct<=s2.ct:=xp k4 j4;have fin:∀(jump:Option wM) (st':Nat) (pe':zg),At pe'=jump->Ct st'=(if jump.isNone then .ready else .done)->st'<=2->
       ∃v' w',(Instr.endRound p.b jump).run O.P w2= .ok v' w'/\Ae O m S w hp ct (.bool jump.isNone) (bf s2.hp l (.lp oZ CQ LA Kp st' pe')) s2.ct (.returned v') w':=by
      intro jump st' pe' e1 e2 e3;obtain ⟨z1,z2⟩:=aa6 j2 nH pk d1 (st':=st') (pe':=pe') e3;rw [e1,e2] at z1 z2;exact ⟨_,_,akp d1 jump,_,m2,S2,rfl,z1,ahy,by simp [aj],aw8.trans (z2.zh ahy)⟩
     cases ex with
     | normal=>
      simp only [yc,yk] at hv;obtain ⟨rfl,rfl,rfl⟩:=hv;simp only [rJ,roundPost];exact fin none 0 .none rfl rfl (by omega)
     | ret=>
      simp only [Uk,yc,yk] at hv;obtain ⟨rfl,rfl,rfl⟩:=hv;simp only [rJ,roundPost];exact fin (some .ret) 2 .ret rfl rfl (by omega)
     | exit id=>
      simp only [Uk,yc,yk] at hv;obtain ⟨rfl,rfl,rfl⟩:=hv;simp only [rJ,roundPost];exact fin (some (.exit id)) 2 (.exit id) rfl rfl (by omega)
end
end
section
open Go
section
variable {O:bD} {self:cT}
def NL {P:y7} {f:tQ} {fn:tC} {args:Array yf} {w:yh} (hf:P.funcs[f]? =some fn) (hb:fn.body.isSome=true) (hn:fn.name≠ "runtime.NumGoroutine"):(callFunc f args).run P w= .ok (.enter f args) w:=by
 have h1:fn.body≠none:=fun e=>by rw [e] at hb;cases hb
 simp [callFunc,program,Sem.run,hf,h1,hn]
def RY {P:y7} {H:Hint} {fn:tC} {F:aJ} (h:FQ P H fn=some F):∃c,fn.body=some c/\F.body=(comp P H c 0 0).1/\pL P fn.results.toList=some F.dM/\H.n<=fn.ntmps:=by
 unfold FQ at h
 split at h
 ·rename_i c rs h1 h2
  cases hb:Nat.ble H.n fn.ntmps with
  | false=>rw [hb] at h;cases h
  | true=>
   rw [hb] at h;simp only [ym,yc] at h;subst h
   simp_all
 ·cases h
def aol {m:Mp} {S:Nat->Prop} {w:yh} {hp:Hp} {ct:Nat} {tm:Env} {a:Act} {ro:Option Nat} (fn:tQ) (ps:Array Tmp) (assign body:wM) {as_ b':VC} {h:Nat} (hh:bg O m S w hp ct) (ht:cF O m S w tm a.tmps) (dF:Au ro w)
  (Xi:CS O.P (O.hint h) as_ assign) (Xj:CS O.P (O.hint h) b' body) (hn:(O.hint h).n<=a.tmps.size) (fH:AG (O.hint h).n ps.toList=true) {lo:Nat} (fJ:lo<=w.heap.size) (dc:Marks lo S w a.defers):
  ∃l mark w1,(Instr.enterLoop fn a.tmps ps assign body ro).run O.P w= .ok (l,mark) w1/\bg O (fX m ct ⟨l,0,0,0⟩) S w1 ((ct,.lp tm ps.toList as_ b' 0 .none)::hp) (ct+1)/\
   cG m S w hp (fX m ct ⟨l,0,0,0⟩) S w1 ((ct,.lp tm ps.toList as_ b' 0 .none)::hp) ct/\m ct=none/\Marks lo S w1 (mark++a.defers)/\w.heap.size<=l:=by
 have bX:m ct=none:=by
  cases hq:m ct with
  | none=>rfl
  | some p=>have:=hh.lt ct p hq;omega
 have lay:∀(w':yh) (d:Nat),Calm w w'->Marks lo S w' a.defers->
   bg O (fX m ct ⟨w'.heap.size,0,0,0⟩) S (w'.alloc (.loop {state:= .ready,pending:=none,fn:=fn,tmps:=a.tmps,params:=ps,assign:=assign,body:=body,defers:=d})) ((ct,.lp tm ps.toList as_ b' 0 .none)::hp) (ct+1)/\
   cG m S w hp (fX m ct ⟨w'.heap.size,0,0,0⟩) S (w'.alloc (.loop {state:= .ready,pending:=none,fn:=fn,tmps:=a.tmps,params:=ps,assign:=assign,body:=body,defers:=d})) ((ct,.lp tm ps.toList as_ b' 0 .none)::hp) ct:=by
  intro w' d hw ahz;have jD:bg O m S w' hp ct:=Fw hh hw (fun _ h=>h) (fun _ h=> .inl h) (fun b hb=>Nat.lt_of_lt_of_le (hh.slt b hb) hw.size);have Hm:cG m S w hp m S w' hp ct:=Dz hh hw (fun _ h=>h) (fun _ h=> .inl h);have hg:iU hp ct ((ct,.lp tm ps.toList as_ b' 0 .none)::hp) (ct+1):=by
   refine ⟨fun id o ho=>⟨o,?_,jX.refl o⟩,by omega,fun id o ho=>?_,fun id o ho hi=>?_⟩
   ·rw [iC,yr (by have:=hh.bm id o ho;omega)];exact ho
   ·rw [iC] at ho;by_cases hc:ct=id
    ·omega
    ·simp only [hc,yN] at ho;have:=hh.bm id o ho;omega
   ·rw [iC,yr (by omega)] at ho;exact ⟨o,ho⟩
  have iN:∀i q,ap ((ct,Obj.lp tm ps.toList as_ b' 0 .none)::hp) i=some q->i≠ct->ap hp i=some q:=fun i q h hi=>by
   rw [iC,yr (fun e=>hi e.symm)] at h;exact h
  have LS:bg O m S w' ((ct,.lp tm ps.toList as_ b' 0 .none)::hp) (ct+1):=by
   have ew:∀id p,m id=some p->id≠ct:=fun id p hm e=>by have:=hh.lt id p hm;omega
   exact ⟨fun id o p ho hm=>jD.obj id o p (iN id o ho (ew id p hm)) hm,fun id p hm=>by have:=hh.lt id p hm;omega,
    fun i j oi oj pi pj hi hj bX gT e=>jD.inj i j oi oj pi pj (iN i oi hi (ew i pi bX)) (iN j oj hj (ew j pj gT)) bX gT e,jD.slt,jD.blt,jD.low,jD.mG,jD.gK,hg.lt⟩
  have pf:fV O (fX m ct ⟨w'.heap.size,0,0,0⟩) S (w'.alloc (.loop {state:= .ready,pending:=none,fn:=fn,tmps:=a.tmps,params:=ps,assign:=assign,body:=body,defers:=d})) ct (.lp tm ps.toList as_ b' 0 .none):=by
   refine ⟨⟨w'.heap.size,0,0,0⟩,_,h,eT,heap_alloc_new w' _,?_,rfl,by omega,rfl,?_,rfl,Xi,Xj,hn,fH⟩
   ·intro hS
    have:=jD.slt _ hS
    simp at this
   ·exact BO (lK bX) (fun _ h=>h) (fun b hb=>(Ja jD _ b hb).trans (hw.same b (hh.slt b hb))) ht
  obtain ⟨S',k1,k2,k3⟩:=abS (i:=ct) (p:=⟨w'.heap.size,0,0,0⟩) LS bX (by omega) rfl (fun o ho=>by
   rw [iC] at ho;simp only [yV,yc] at ho;subst ho
   exact .inl ⟨pf,by simp [jL]⟩)
  have k1':bg O (fX m ct ⟨w'.heap.size,0,0,0⟩) S (w'.alloc (.loop {state:= .ready,pending:=none,fn:=fn,tmps:=a.tmps,params:=ps,assign:=assign,body:=body,defers:=d})) ((ct,.lp tm ps.toList as_ b' 0 .none)::hp) (ct+1):=by
   have LJ:∀id q,m id=some q->q.b≠w'.heap.size:=fun id q hq=>by have:=jD.blt id q hq;omega
   refine ⟨?_,k1.lt,k1.inj,fun b hb=>k1.slt b (k2 b hb),k1.blt,k1.low,k1.mG,k1.gK,k1.bm⟩;intro id o q ho hm;by_cases hc:id=ct
   ·subst hc;rw [iC] at ho
    grind
   ·rw [eS hc] at hm;exact sI (lK bX) (fun _ h=>h) (Ja jD _) (fun q' cz=>alloc_old (jD.blt id q' cz)) (fun _ _ h=>h) (jD.obj id o q (iN id o ho hc) hm)
  refine ⟨k1',Hm.trans ⟨rfl,rfl,rfl,by simp,fun b hb _=>alloc_old hb,fun _ h=>h,fun b hb=>Ja jD _ b hb,fun b hb=> .inl hb,?_,fun i q _ hq=>lK bX i q hq,fun b r hb=>⟨r,(alloc_old (xy.1 hb).1).trans hb⟩⟩⟩;rintro b ⟨i,o,q,g1,g2,g3⟩;by_cases hc:i=ct
  ·subst hc;rw [eT] at g2
   grind
  ·rw [eS hc] at g2;exact .inl ⟨i,o,q,iN i o g1 hc,g2,g3⟩
 cases ro with
 | none=>
  have Ks:Calm w (w.alloc (.deferred (some []))):=⟨rfl,rfl,rfl,by simp,fun b hb=>alloc_old hb⟩;obtain ⟨rs,r1,r2,r3⟩:=dc;have aw9:Marks lo S (w.alloc (.deferred (some []))) a.defers:=⟨rs,r1,r2,fun r hr=>⟨(alloc_old (xy.1 (r3 r hr).1).1).trans (r3 r hr).1,(r3 r hr).2⟩⟩;obtain ⟨k1,k2⟩:=lay (w.alloc (.deferred (some []))) w.heap.size Ks aw9
  refine ⟨(w.alloc (.deferred (some []))).heap.size,[{target:= .collected w.heap.size,args:=#[]}],_,?_,k1,k2,bX,?_,by simp⟩
  ·simp [Instr.enterLoop,newObj,Sem.run]
  ·have hold:∀(b:Nat) (x:Go.Obj),(w.alloc (.deferred (some []))).heap[b]? =some x->((w.alloc (.deferred (some []))).alloc (.loop {state:= .ready,pending:=none,fn:=fn,tmps:=a.tmps,params:=ps,assign:=assign,body:=body,defers:=w.heap.size})).heap[b]? =some x:=fun b x hb=>
    (alloc_old (xy.1 hb).1).trans hb
   refine ⟨w.heap.size::rs,by rw [r1];rfl,?_,?_⟩
   ·grind
   ·intro r hr;rcases List.mem_cons.1 hr with rfl | hr
    ·exact ⟨hold _ _ (heap_alloc_new w _),fun hs=>by have:=hh.slt _ hs;omega,fJ⟩
    ·exact ⟨hold _ _ ((alloc_old (xy.1 (r3 r hr).1).1).trans (r3 r hr).1),(r3 r hr).2⟩
 | some l0=>
  obtain ⟨r0,pn⟩:=dF l0 rfl;obtain ⟨k1,k2⟩:=lay w r0.defers Calm.refl dc;refine ⟨w.heap.size,[],_,?_,k1,k2,bX,?_,yB _⟩
  ·simp [Instr.enterLoop,I7 pn,newObj,Sem.run]
  ·exact BP hh k2 dc
def avz (hO:eP O) (hC:oG O self) {h:Nat} {f:Operand} {ps:Array Tmp} {assign body:wM} {as_ b':VC} (Xi:CS O.P (O.hint h) as_ assign) (Xj:CS O.P (O.hint h) b' body) (fH:AG (O.hint h).n ps.toList=true)
  {s:St} {ex:Ex} {s':St} (hv:bL O.prog O.aU self (.rf (aV (O.hint h) f) ps.toList as_ b') s=some (ex,s')):Cj O h (.rangeFunc f ps assign body) s ex s':=by
 intro ro lo m S w a dF ht hh hb hn bt fJ dc;simp only [bL] at hv
 split at hv
 case h_2=>cases hv
 rename_i n first cap hx
 split at hv
 case h_1=>cases hv
 rename_i hL
 cases he:iS O.prog O.aU self ((s.ct,.lp s.tm ps.toList as_ b' 0 .none)::s.hp) (s.ct+1) n (first++(.fn (.y s.ct) [] []::cap)) with
 | none=>simp [he] at hv
 | some q=>
  obtain ⟨v,bI,zQ⟩:=q;simp only [he] at hv
  split at hv
  case h_2=>cases hv
  rename_i oZ CQ LA Kp st pe nH
  cases bh:yx st 1 with
  | true=>rw [bh] at hv;cases hv
  | false=>
   rw [bh] at hv;simp only [yD] at hv;refine wpIn_rangeFunc (fun fn _=>?_);obtain ⟨l,mark,w1,e1,e2,e3,e4,e5,e6⟩:=aol (ro:=ro) fn ps assign body hh ht dF Xi Xj hn fH fJ dc;have rf:=cQ (hO.hint h) ht f;rw [hx] at rf;simp only [aj] at rf;obtain ⟨fi,ca,hf,r2,r3⟩:=rf;have hle:=lK e4 (p:=⟨l,0,0,0⟩);have Cu:gI S w w1:=fun b hb=>e3.still b hb
   have iq:au O.ai (fX m s.ct ⟨l,0,0,0⟩) S w1 (first++(.fn (.y s.ct) [] []::cap)) (fi++#[Value.func (.yield l) #[] #[]]++ca).toList:=by
    have:=mW (iB hle (fun _ h=>h) Cu _ _ r2) (mW (a:=[.fn (.y s.ct) [] []]) (x:=[Value.func (.yield l) #[] #[]]) (by
     simp only [au]
     exact ⟨_,[],rfl,by simp only [aj];exact ⟨_,eT,rfl⟩,rfl⟩) (iB hle (fun _ h=>h) Cu _ _ r3))
    grind
   have AI:=hC.heap _ _ _ _ _ _ _ he _ S w1 _ e2 iq;have hP:∃F,O.prog n=some F:=by
    unfold iS at he;rw [hL] at he
    cases hq:O.prog n with
    | none=>simp [hq] at he
    | some F=>exact ⟨F,rfl⟩
   obtain ⟨F,hF⟩:=hP;obtain ⟨fn',q1,q2,q3⟩:=hO.prog n F hF;obtain ⟨cb,q4,_⟩:=RY q2;have gB:(callFunc (O.ai n) (fi++#[Value.func (.yield l) #[] #[]]++ca)).run O.P w1= .ok (.enter (O.ai n) (fi++#[Value.func (.yield l) #[] #[]]++ca)) w1:=NL q1 (by rw [q4];rfl) q3
   refine ⟨l,mark,w1,{target:= .fn (.func (O.ai n)) ca,args:=fi++#[Value.func (.yield l) #[] #[]]},w1,O.ai n,fi++#[Value.func (.yield l) #[] #[]]++ca,w1,e1,?_,fun _ _=>trivial,?_,fun hd=>by simp [WF,Fence.wide] at hd,?_⟩
   ·show Sem.run O.P (Deferred.ofValue (a.eval f) _) w1=_
    rw [hf];simp [Deferred.ofValue,Act.eval]
   ·simp only [invoke];exact gB
   ·rcases AI with ⟨_,AI⟩ | ⟨u,w',h1,_⟩
    case inr=>rw [gB] at h1;cases h1
    have asU:CallsIn (WF ro) 0 O.P (O.ai n) (fi++#[Value.func (.yield l) #[] #[]]++ca) w1 (Ae O (fX m s.ct ⟨l,0,0,0⟩) S w1 ((s.ct,.lp s.tm ps.toList as_ b' 0 .none)::s.hp) (s.ct+1) v bI zQ):=AI;refine CallsIn.mono asU ?_;rintro e w3 ⟨u,m',S',rfl,k1,k2,k3,k4⟩;have fR:m' s.ct=some ⟨l,0,0,0⟩:=k4.old s.ct _ (Nat.lt_succ_self _) eT;obtain ⟨r,LS,d1,d2,d3,d4,d5,d6,_⟩:=JF k1 nH fR;have qR:(r.state==LoopState.busy)=false:=by
     rw [d3];rcases st with _ | _ | st
     ·rfl
     ·simp_all
     ·have:st=0:=by omega
      subst this;rfl
    have gA:=Fo w3 l (.loop {r with state:= .exhausted});have Xk:=ab0 k1 s.ct;have pg:¬eL m' (dL bI s.ct) l:=ZH k1 nH fR
    have z1:bg O m' S' {w3 with heap:=w3.heap.setIfInBounds l (.loop {r with state:= .exhausted})} (VE.dL bI s.ct) zQ:=aah Xk gA d2 pg (by have:=hh.gK;omega)
    have z2:cG m' S' w3 bI m' S' {w3 with heap:=w3.heap.setIfInBounds l (.loop {r with state:= .exhausted})} (VE.dL bI s.ct) s.base:=by
     refine ⟨rfl,rfl,rfl,by rw [gA.size];exact yB _,fun b _ hb=>gA.other b (fun e=>hb (e▸JQ nH fR)),fun _ h=>h,fun b hb=>gA.other b (fun e=>d2 (e▸hb)),fun b hb=> .inl hb,fun b hb=> .inl (adf hb),fun _ _ _ h=>h,fun b x hb=>?_⟩
     grind
    have Vv:cG m S w s.hp m' S' {w3 with heap:=w3.heap.setIfInBounds l (.loop {r with state:= .exhausted})} (VE.dL bI s.ct) s.base:=
     ((e3.zh hb).trans (k4.zh (by omega))).trans z2
    have Po:(Instr.endLoop l).run O.P w3= .ok (At pe) {w3 with heap:=w3.heap.setIfInBounds l (.loop {r with state:= .exhausted})}:=by
     simp only [Instr.endLoop,Sem.run_bind,I7 d1,Result.andThen_ok,qR,Bool.false_eq_true,yN,Sem.run_pure,M7 (P:=O.P) d1 (fun _ _ _=>by simp),d5]
    have ahz:Marks lo S' {w3 with heap:=w3.heap.setIfInBounds l (.loop {r with state:= .exhausted})} (mark++a.defers):=BP k1 z2 (BP e2 k4 e5)
    have r9:cF O m' S' {w3 with heap:=w3.heap.setIfInBounds l (.loop {r with state:= .exhausted})} s.tm a.tmps:=by
     refine BO (fun id p hp=>?_) Vv.sub (fun b hb=>Vv.still b hb) ht;have h1:=hh.lt id p hp;exact k4.old id p (by omega) (hle id p hp)
    have post:∀Xl,s'={s with hp:=VE.dL bI s.ct,ct:=zQ}->ex=Xl->fj O m S w s ex s' a.tmps.size lo (rJ Xl) {a with defers:=mark++a.defers} {w3 with heap:=w3.heap.setIfInBounds l (.loop {r with state:= .exhausted})}:=by
     rintro Xl rfl rfl;exact ⟨rfl,m',S',r9,z1,rfl,by show s.base<=zQ;omega,Vv,rfl,ahz⟩
    refine ⟨_,_,Po,?_⟩
    cases pe with
    | none=>
     simp only [yc,yk] at hv;exact post .normal hv.2.symm hv.1.symm
    | ret=>
     simp only [yc,yk] at hv;exact wpIn_ret (post .ret hv.2.symm hv.1.symm)
    | exit id=>
     simp only [yc,yk] at hv;exact wpIn_exit (post (.exit id) hv.2.symm hv.1.symm)
end
end
section
def Le (f g:cT):Prop:=∀c s r,f c s=some r->g c s=some r
section
variable {P:aI} {L:Lib} {f g:cT}
def RQ (h:Le f g) (n:Nat) (vals:List AV) (r:AV) (hr:bY P L f n vals=some r):bY P L g n vals=some r:=by
 unfold bY at hr ⊢
 cases hL:L.pure n with
 | some sp=>simpa only [hL] using hr
 | none=>
  simp only [hL] at hr ⊢
  cases hP:P n with
  | none=>simp [hP] at hr
  | some F=>
   simp only [hP] at hr ⊢
   cases hf:f F.body ⟨fM 0 vals,[],0,0⟩ with
   | none=>simp [hf] at hr
   | some q=>rw [h _ _ _ hf];simpa only [hf] using hr
def RZ (h:Le f g) (hp:Hp) (ct:Nat) (n:Nat) (vals:List AV) (r:AV×Hp×Nat) (hr:iS P L f hp ct n vals=some r):iS P L g hp ct n vals=some r:=by
 unfold iS at hr ⊢
 cases hL:L.heap n with
 | some sp=>simpa only [hL] using hr
 | none=>
  simp only [hL] at hr ⊢
  cases hP:P n with
  | none=>simp [hP] at hr
  | some F=>
   simp only [hP] at hr ⊢
   cases hf:f F.body ⟨fM 0 vals,hp,ct,ct⟩ with
   | none=>simp [hf] at hr
   | some q=>rw [h _ _ _ hf];simpa only [hf] using hr
def Zy (h:Le f g) (hp:Hp) (ct:Nat) (l:Nat) (xs:List AV) (r:AV×Hp×Nat) (hr:jq f hp ct l xs=some r):jq g hp ct l xs=some r:=by
 unfold jq at hr ⊢
 cases hl:ap hp l with
 | none=>simp [hl] at hr
 | some o=>
  simp only [hl] at hr ⊢
  split at hr
  ·rename_i tm ps as_ body pe po;simp only [yc] at po;subst po
   (try simp only at hr ⊢)
   cases hb:rB tm ps xs with
   | none=>simp [hb] at hr
   | some tm'=>
    simp only [hb] at hr ⊢
    cases h1:f as_ ⟨tm',hp,ct,ct⟩ with
    | none=>simp [h1] at hr
    | some q=>
     rw [h _ _ _ h1];simp only [h1] at hr ⊢
     split at hr
     ·rename_i s1 Vw;simp only [yc] at Vw;subst Vw
      (try simp only at hr ⊢)
      split at hr
      ·rename_i iL zF EE D2 qJ ahA
       (try simp only [ahA])
       cases h2:f body ⟨s1.tm,bf s1.hp l (.lp iL zF EE D2 1 qJ),s1.ct,s1.ct⟩ with
       | none=>simp [h2] at hr
       | some q2=>rw [h _ _ _ h2];simpa only [h2] using hr
      ·simp at hr
     ·simp at hr
  ·simp at hr
def ZM (h:Le f g) (hp:Hp) (ct:Nat) (m:Md) (fv:AV) (xs:List AV) (r:AV×Hp×Nat) (hr:dR P L f hp ct m fv xs=some r):dR P L g hp ct m fv xs=some r:=by
 unfold dR at hr ⊢
 split at hr
 ·rename_i n first cap
  cases m with
  | pure=>
   simp only at hr ⊢
   cases hz:cW deep hp (first++(xs++cap)) with
   | none=>simp [hz] at hr
   | some q=>
    simp only [hz] at hr ⊢
    cases hc:bY P L f n q.1 with
    | none=>simp [hc] at hr
    | some u=>rw [RQ h n q.1 u hc];simpa only [hc] using hr
  | own=>
   simp only at hr ⊢
   cases hz:cW deep hp (first++(xs++cap)) with
   | none=>simp [hz] at hr
   | some q=>
    simp only [hz] at hr ⊢
    cases hc:bY P L f n q.1 with
    | none=>simp [hc] at hr
    | some u=>rw [RQ h n q.1 u hc];simpa only [hc] using hr
  | heap=>exact RZ h _ _ _ _ _ hr
  | dyn=>
   simp only at hr ⊢
   cases hz:aK (first++(xs++cap)) with
   | true=>
    simp only [hz,ym] at hr ⊢
    cases hc:bY P L f n (first++(xs++cap)) with
    | none=>simp [hc] at hr
    | some u=>rw [RQ h n _ u hc];simpa only [hc] using hr
   | false=>
    simp only [hz,yD] at hr ⊢;exact RZ h _ _ _ _ _ hr
 ·split at hr
  ·exact Zy h _ _ _ _ _ hr
  ·exact Zy h _ _ _ _ _ hr
  ·simp at hr
 ·simp at hr
def aa8 (h:Le f g) (tm:Env) (hp:Hp) (ct:Nat) (o:Op) (r:AV×Hp×Nat) (hr:bC P L f tm hp ct o=some r):bC P L g tm hp ct o=some r:=by
 unfold bC at hr ⊢
 split at hr
 ·exact ZM h _ _ _ _ _ _ hr
 ·rename_i rs fv xs
  (try simp only at hr ⊢)
  cases hc:dR P L f hp ct .dyn (aC tm fv) (dS tm xs) with
  | none=>simp [hc] at hr
  | some q=>rw [ZM h _ _ _ _ _ _ hc];simpa only [hc] using hr
 all_goals simpa only using hr
def M8 (h:Le f g):∀(ops:List br) (s s':St),ej P L f ops s=some s'->ej P L g ops s=some s'
 | [],s,s',hr=>by simpa only [ej] using hr
 | ⟨d,gd,o⟩::r,s,s',hr=>by
  simp only [ej] at hr ⊢
  split at hr
  ·rename_i hw
   try simp only [hw]
   cases ho:bC P L f s.tm s.hp s.ct o with
   | none=>simp [ho] at hr
   | some q=>rw [aa8 h _ _ _ _ _ ho];simp only [ho] at hr ⊢;exact M8 h r _ _ hr
  ·rename_i hw
   (try simp only [hw]);exact M8 h r _ _ hr
  ·simp at hr
def rb (h:Le f g):∀(c:VC) (s:St) (r:Ex×St),bL P L f c s=some r->bL P L g c s=some r
 | .skip,s,r,hr=>by simpa only [bL] using hr
 | .aT ops,s,r,hr=>by
  simp only [bL] at hr ⊢
  cases ho:ej P L f ops s with
  | none=>simp [ho] at hr
  | some s'=>rw [M8 h _ _ _ ho];simpa only [ho] using hr
 | .seq a b,s,r,hr=>by
  simp only [bL] at hr ⊢
  cases ha:bL P L f a s with
  | none=>simp [ha] at hr
  | some q=>
   rw [rb h a s q ha];obtain ⟨ex,s1⟩:=q
   cases ex with
   | normal=>simp only [ha] at hr ⊢;exact rb h b s1 r hr
   | ret=>simpa only [ha] using hr
   | exit id=>simpa only [ha] using hr
 | .cond x a b,s,r,hr=>by
  simp only [bL] at hr ⊢
  split at hr
  ·rename_i t ht
   try simp only [ht]
   cases t with
   | true=>simp only [ym] at hr ⊢;exact rb h a s r hr
   | false=>simp only [yD] at hr ⊢;exact rb h b s r hr
  ·simp at hr
 | .aP id a,s,r,hr=>by
  simp only [bL] at hr ⊢
  cases ha:bL P L f a s with
  | none=>simp [ha] at hr
  | some q=>rw [rb h a s q ha];simpa only [ha] using hr
 | .kp live,s,r,hr=>by simpa only [bL] using hr
 | .fz ts,s,r,hr=>by simpa only [bL] using hr
 | .loop live a,s,r,hr=>by
  simp only [bL] at hr ⊢
  cases ha:bL P L f a (bA live s) with
  | none=>simp [ha] at hr
  | some q=>
   rw [rb h a _ q ha];obtain ⟨ex,s1⟩:=q
   cases ex with
   | normal=>simp only [ha] at hr ⊢;exact h _ _ _ hr
   | ret=>simpa only [ha] using hr
   | exit id=>simpa only [ha] using hr
 | .rf fv ps as_ body,s,r,hr=>by
  simp only [bL] at hr ⊢
  split at hr
  ·rename_i n first cap hx
   try simp only [hx]
   split at hr
   ·simp at hr
   ·rename_i hL
    try simp only [hL]
    cases hc:iS P L f ((s.ct,.lp s.tm ps as_ body 0 .none)::s.hp) (s.ct+1) n (first++(.fn (.y s.ct) [] []::cap)) with
    | none=>simp [hc] at hr
    | some q=>rw [RZ h _ _ _ _ _ hc];simpa only [hc] using hr
  ·simp at hr
 | .exit id,s,r,hr=>by simpa only [bL] using hr
 | .ret,s,r,hr=>by simpa only [bL] using hr
end
def JG (P:aI) (L:Lib) (c:VC) (s:St):ev P L 0 c s=none:=rfl
def JH (P:aI) (L:Lib) (n:Nat):ev P L (n+1)=bL P L (ev P L n):=rfl
def agl (P:aI) (L:Lib):∀n,Le (ev P L n) (ev P L (n+1))
 | 0=>fun c s r h=>by rw [JG] at h;cases h
 | n+1=>fun c s r h=>by
  rw [JH] at h ⊢;exact rb (agl P L n) c s r h
def TK (P:aI) (L:Lib) {n m:Nat} (h:n<=m):Le (ev P L n) (ev P L m):=by
 induction h with
 | refl=>exact fun _ _ _ h=>h
 | step _ ih=>exact fun c s r hr=>agl P L _ c s r (ih c s r hr)
end
section
open Go
section
variable {O:bD} {self:cT}
def fj.none {m:Mp} {S:Nat->Prop} {w:yh} {s s':St} {ex:Ex} {n lo:Nat} {a:Act} {w':yh} (l:Nat):¬fj O m S w s ex s' n lo (.goto l) a w':=by
 rintro ⟨h,_⟩;cases ex<;>cases h
def fj.then {m m1:Mp} {S S1:Nat->Prop} {w w1:yh} {s s1 s2:St} {ex:Ex} {n lo:Nat} {a':Act} {w':yh} {e:uQ} {ex1:Ex} (h1:s1.base=s.base)
  (hf:cG m S w s.hp m1 S1 w1 s1.hp s.base) (h:fj O m1 S1 w1 s1 ex s2 n lo e a' w'):fj O m S w s ex s2 n lo e a' w':=by
 obtain ⟨h2,m',S',k1,k2,k3,k4,k5,k6,k7⟩:=h;rw [h1] at k3 k4 k5;exact ⟨h2,m',S',k1,k2,k3,k4,hf.trans k5,k6,k7⟩
def fj.dE {m:Mp} {S:Nat->Prop} {w:yh} {s s1:St} {n lo:Nat} {a':Act} {w':yh} {e:uQ} {ex:Ex} (live:List Nat) (h:fj O m S w s ex s1 n lo e a' w'):fj O m S w s ex (bA live s1) n lo e a' w':=by
 obtain ⟨h2,m',S',k1,k2,k3,k4,k5,k6,k7⟩:=h;obtain ⟨m2,g1,g2,g3,g4,g5⟩:=Sb (live:=live) k1 k2 (by rw [k3];exact k4)
 rw [k3] at g3 g4 g5;exact ⟨h2,m2,S',g1,g2,g3,g4,k5.trans g5,k6,BP k2 g5 k7⟩
def agm {m:Mp} {w:yh} {tmps:Array yf}:∀{ts:List Nat} {s s1:St} {S:Nat->Prop},cF O m S w s.tm tmps->bg O m S w s.hp s.ct->pX ts s=some s1->
  ∃S1,cF O m S1 w s1.tm tmps/\bg O m S1 w s1.hp s1.ct/\s1.base=s.base/\s1.ct=s.ct/\∀base,cG m S w s.hp m S1 w s1.hp base
 | [],s,s1,S,ht,hh,h=>by
  simp only [pX,yc] at h;subst h;exact ⟨S,ht,hh,rfl,rfl,fun _=>cG.refl⟩
 | t::r,s,s1,S,ht,hh,h=>by
  simp only [pX] at h
  cases hz:freeze deep s.hp (ab s.tm t) with
  | none=>simp [hz] at h
  | some q=>
   obtain ⟨v,hp⟩:=q;simp only [hz] at h;obtain ⟨h1,h2,h3⟩:=Sv (O:=O) hz;have hg:iU s.hp s.ct hp s.ct:=⟨h1,yB _,fun id o ho=>(by
     have:=h2 id
     rw [ho] at this
     cases hq:ap s.hp id with
     | none=>rw [hq] at this;simp at this
     | some o'=>exact hh.bm id o' hq),fun id o ho _=>(by
     have:=h2 id
     rw [ho] at this
     cases hq:ap s.hp id with
     | none=>rw [hq] at this;simp at this
     | some o'=>exact ⟨o',rfl⟩)⟩
   obtain ⟨S',k1,k2,k3,k4⟩:=NH hh hg;have r9:cF O m S' w ((t,v)::s.tm) tmps:=by
    intro i;simp only [ab]
    cases hb:yx t i with
    | true=>
     have:=yo hb
     subst this;exact (h3 hp m S' w s.ct dN.refl k1).1 _ (mY (fun _ _ h=>h) k2 (fun _ _=>rfl) _ _ (ht t))
    | false=>
     exact mY (fun _ _ h=>h) k2 (fun _ _=>rfl) _ _ (ht i)
   obtain ⟨S1,g1,g2,g3,g4,g5⟩:=agm (s:={s with tm:=(t,v)::s.tm,hp:=hp}) r9 k1 h;exact ⟨S1,g1,g2,g3,g4,fun base=>(k4 base).trans (g5 base)⟩
def adl (hO:eP O) (n:Nat) (hC:∀k,k<=n->oG O (ev O.prog O.aU k)) (h:Nat):∀(c:wM) (l k:Nat) (j:Nat),j<=n->∀(s:St) (ex:Ex) (s':St),
  bL O.prog O.aU (ev O.prog O.aU j) (comp O.P (O.hint h) c l k).1 s=some (ex,s')->Cj O h c s ex s':=by
 have refl:∀{s:St} {ex:Ex} {m:Mp} {S:Nat->Prop} {w:yh} {a:Act} {lo:Nat},cF O m S w s.tm a.tmps->bg O m S w s.hp s.ct->s.base<=s.ct->Marks lo S w a.defers->fj O m S w s ex s a.tmps.size lo (rJ ex) a w:=
  fun h1 h2 h3 h4=>⟨rfl,_,_,h1,h2,rfl,h3,cG.refl,rfl,h4⟩
 have Vx:∀{self:cT} {s:St} {r:Ex×St},bL O.prog O.aU self (.aT [⟨none,none,bad⟩]) s=some r->False:=by
  intro self s r hv;simp [bL,ej,bad,bC,dR,aC] at hv
 intro c
 induction c with
 | skip=>
  intro l k j hj s ex s' hv ro lo m S w a dF ht hh hb hn bt fJ dc;simp only [comp,bL,yc,yk] at hv;obtain ⟨rfl,rfl⟩:=hv;exact wpIn_skip (refl ht hh hb dc)
 | label x=>
  intro l k j hj s ex s' hv ro lo m S w a dF ht hh hb hn bt fJ dc;simp only [comp,bL,yc,yk] at hv;obtain ⟨rfl,rfl⟩:=hv;exact wpIn_label (refl ht hh hb dc)
 | exit id=>
  intro l k j hj s ex s' hv ro lo m S w a dF ht hh hb hn bt fJ dc;simp only [comp,bL,yc,yk] at hv;obtain ⟨rfl,rfl⟩:=hv
  exact wpIn_exit (refl (ex:= .exit id) ht hh hb dc)
 | ret=>
  intro l k j hj s ex s' hv ro lo m S w a dF ht hh hb hn bt fJ dc;simp only [comp,bL,yc,yk] at hv;obtain ⟨rfl,rfl⟩:=hv
  exact wpIn_ret (refl (ex:= .ret) ht hh hb dc)
 | goto x=>intro l k j hj s ex s' hv;exact (Vx (by simpa only [comp] using hv)).elim
 | refuse x=>intro l k j hj s ex s' hv;exact (Vx (by simpa only [comp] using hv)).elim
 | region id ops d=>
  intro l k j hj s ex s' hv;simp only [comp] at hv;generalize hq:NZ O.P (O.hint h) ops d k=q at hv;obtain ⟨r,k'⟩:=q;have main:∀{s s':St} {ex:Ex},bL O.prog O.aU (ev O.prog O.aU j) (.aT r) s=some (ex,s')->Cj O h (.region id ops d) s ex s':=by
   intro s s' ex hv;simp only [bL] at hv
   cases ho:ej O.prog O.aU (ev O.prog O.aU j) r s with
   | none=>simp [ho] at hv
   | some s1=>
    simp only [ho,yc,yk] at hv;obtain ⟨rfl,rfl⟩:=hv;exact asT hO (hC j hj) h id ops d k (by rw [hq];exact ho)
  simp only at hv
  split at hv
  ·exact main hv
  ·rename_i t ts _;simp only [bL] at hv
   cases hf:pX (t::ts) s with
   | none=>simp [hf] at hv
   | some s1=>
    simp only [hf] at hv;intro ro lo m S w a dF ht hh hb hn bt fJ dc;obtain ⟨S1,g1,g2,g3,g4,g5⟩:=agm ht hh hf;have h1:=main (s:=s1) (by simpa only [bL] using hv) ro lo m S1 w a dF g1 g2 (by rw [g3,g4];exact hb) hn bt fJ (BP hh (g5 s.base) dc)
    refine wpIn_mono h1 (fun e a' w' hp=>?_)
    exact fj.then (ex1:= .normal) g3 (g5 s.base) hp
 | seq x y ihx ihy=>
  intro l k j hj s ex s' hv ro lo m S w a dF ht hh hb hn bt fJ dc;simp only [comp] at hv;generalize zR:comp O.P (O.hint h) x l k=qx at hv;obtain ⟨x',l1,k1⟩:=qx;simp only at hv;generalize LU:comp O.P (O.hint h) y l1 k1=qy at hv;obtain ⟨y',l2,k2⟩:=qy;simp only [bL] at hv
  cases hx:bL O.prog O.aU (ev O.prog O.aU j) x' s with
  | none=>simp [hx] at hv
  | some r=>
   obtain ⟨ex1,s1⟩:=r;have h1:=ihx l k j hj s ex1 s1 (by rw [zR];exact hx) ro lo m S w a dF ht hh hb hn bt fJ dc
   refine wpIn_seq (wpIn_mono h1 ?_);rintro e a1 w1 ⟨rfl,m1,S1,g1,g2,g3,g4,g5,g6,g7⟩;have stop:ex1≠.normal->ex=ex1/\s'=s1:=by
    intro ew;rw [hx] at hv
    cases ex1 with
    | normal=>exact absurd rfl ew
    | ret=>simp only [yc,yk] at hv;exact ⟨hv.1.symm,hv.2.symm⟩
    | exit id=>simp only [yc,yk] at hv;exact ⟨hv.1.symm,hv.2.symm⟩
   cases ex1 with
   | normal=>
    simp only [hx] at hv;simp only [rJ,Exit.then];have h2:=ihy l1 k1 j hj s1 ex s' (by rw [LU];exact hv) ro lo m1 S1 w1 a1 (No g5 dF) g1 g2 (by rw [g3];exact g4) (by rw [g6];exact hn) bt (xp fJ g5.size) g7
    rw [g6] at h2
    exact wpIn_mono h2 (fun e a' w' hp=>fj.then (ex1:= .normal) g3 g5 hp)
   | ret=>
    obtain ⟨rfl,rfl⟩:=stop (by simp);exact ⟨rfl,m1,S1,g1,g2,g3,g4,g5,g6,g7⟩
   | exit id=>
    obtain ⟨rfl,rfl⟩:=stop (by simp);exact ⟨rfl,m1,S1,g1,g2,g3,g4,g5,g6,g7⟩
 | cond x p q ihp ihq=>
  intro l k j hj s ex s' hv ro lo m S w a dF ht hh hb hn bt fJ dc;simp only [comp] at hv;generalize zR:comp O.P (O.hint h) p (l+1) k=qx at hv;obtain ⟨p',l1,k1⟩:=qx;simp only at hv;generalize LU:comp O.P (O.hint h) q l1 k1=qy at hv;obtain ⟨q',l2,k2⟩:=qy;simp only at hv;have main:∀(ex:Ex) (s':St),bL O.prog O.aU (ev O.prog O.aU j) (.cond (aV (O.hint h) x) p' q') s=some (ex,s')->(Code.cond x p q).wpIn (WF ro) 0 O.P (fj O m S w s ex s' a.tmps.size lo) a w:=by
   intro ex s' hv;simp only [bL] at hv;have rx:=cQ (hO.hint h) ht x
   split at hv
   ·rename_i t hx;rw [hx] at rx;simp only [aj] at rx
    cases t with
    | true=>
     simp only [ym] at hv;exact wpIn_cond_true rx (ihp (l+1) k j hj s ex s' (by rw [zR];exact hv) ro lo m S w a dF ht hh hb hn bt fJ dc)
    | false=>
     simp only [yD] at hv;exact wpIn_cond_false rx (ihq l1 k1 j hj s ex s' (by rw [LU];exact hv) ro lo m S w a dF ht hh hb hn bt fJ dc)
   ·cases hv
  cases zi:(O.hint h).out l with
  | none=>rw [zi] at hv;exact main ex s' hv
  | some live=>
   rw [zi] at hv;simp only at hv;rw [show bL O.prog O.aU (ev O.prog O.aU j) (.seq (.cond (aV (O.hint h) x) p' q') (.kp live)) s=match bL O.prog O.aU (ev O.prog O.aU j) (.cond (aV (O.hint h) x) p' q') s with | some (.normal,s1)=>some (.normal,bA live s1) | r=>r from rfl] at hv
   cases hx:bL O.prog O.aU (ev O.prog O.aU j) (.cond (aV (O.hint h) x) p' q') s with
   | none=>simp [hx] at hv
   | some r=>
    obtain ⟨ex1,s1⟩:=r;have h1:=main ex1 s1 hx;rw [hx] at hv
    cases ex1 with
    | normal=>
     simp only [yc,yk] at hv;obtain ⟨rfl,rfl⟩:=hv;exact wpIn_mono h1 (fun e a' w' hp=>fj.dE live hp)
    | ret=>simp only [yc,yk] at hv;obtain ⟨rfl,rfl⟩:=hv;exact h1
    | exit id=>simp only [yc,yk] at hv;obtain ⟨rfl,rfl⟩:=hv;exact h1
 | block id x ih=>
  intro l k j hj s ex s' hv ro lo m S w a dF ht hh hb hn bt fJ dc;simp only [comp] at hv;generalize zR:comp O.P (O.hint h) x l k=qx at hv;obtain ⟨x',r⟩:=qx;simp only at hv;have main:∀(ex:Ex) (s':St),bL O.prog O.aU (ev O.prog O.aU j) (.aP id x') s=some (ex,s')->(Code.block id x).wpIn (WF ro) 0 O.P (fj O m S w s ex s' a.tmps.size lo) a w:=by
   intro ex s' hv;simp only [bL] at hv
   cases hx:bL O.prog O.aU (ev O.prog O.aU j) x' s with
   | none=>simp [hx] at hv
   | some q=>
    obtain ⟨ex1,s1⟩:=q;have h1:=ih l k j hj s ex1 s1 (by rw [zR];exact hx) ro lo m S w a dF ht hh hb hn bt fJ dc
    refine wpIn_block (wpIn_mono h1 ?_);rintro e a1 w1 ⟨rfl,g⟩
    cases ex1 with
    | normal=>
     simp only [hx,yc,yk] at hv;obtain ⟨rfl,rfl⟩:=hv;exact ⟨rfl,g⟩
    | ret=>
     simp only [hx,yc,yk] at hv;obtain ⟨rfl,rfl⟩:=hv;exact ⟨rfl,g⟩
    | exit i=>
     simp only [hx] at hv
     cases QB:yx i id with
     | true=>
      rw [QB] at hv;simp only [ym,yc,yk] at hv;obtain ⟨rfl,rfl⟩:=hv
      have:=yo QB
      subst this;simp only [rJ,Exit.inBlock,yV];exact ⟨rfl,g⟩
     | false=>
      rw [QB] at hv;simp only [yD,yc,yk] at hv;obtain ⟨rfl,rfl⟩:=hv;have ew:i≠id:=fun e=>by subst e;simp at QB
      simp only [rJ,Exit.inBlock,ew,yN];exact ⟨rfl,g⟩
  have avA:∀live:List Nat,bL O.prog O.aU (ev O.prog O.aU j) (.seq (.aP id x') (.kp live)) s=some (ex,s')->(Code.block id x).wpIn (WF ro) 0 O.P (fj O m S w s ex s' a.tmps.size lo) a w:=by
   intro live hv;rw [show bL O.prog O.aU (ev O.prog O.aU j) (.seq (.aP id x') (.kp live)) s=match bL O.prog O.aU (ev O.prog O.aU j) (.aP id x') s with | some (.normal,s1)=>some (.normal,bA live s1) | r=>r from rfl] at hv
   cases hx:bL O.prog O.aU (ev O.prog O.aU j) (.aP id x') s with
   | none=>simp [hx] at hv
   | some r=>
    obtain ⟨ex1,s1⟩:=r;have h1:=main ex1 s1 hx;rw [hx] at hv
    cases ex1 with
    | normal=>
     simp only [yc,yk] at hv;obtain ⟨rfl,rfl⟩:=hv;exact wpIn_mono h1 (fun e a' w' hp=>fj.dE live hp)
    | ret=>simp only [yc,yk] at hv;obtain ⟨rfl,rfl⟩:=hv;exact h1
    | exit id=>simp only [yc,yk] at hv;obtain ⟨rfl,rfl⟩:=hv;exact h1
  split at hv
  ·exact avA _ hv
  ·exact main ex s' hv
 | loop x ih=>
  intro l k j hj s ex s' hv;simp only [comp] at hv;generalize zR:comp O.P (O.hint h) x (l+1) k=qx at hv;obtain ⟨x',r⟩:=qx;simp only at hv;have rounds:∀(j:Nat),j<=n->∀(s:St) (ex:Ex) (s':St),bL O.prog O.aU (ev O.prog O.aU j) (.loop ((O.hint h).live l) x') s=some (ex,s')->∃K,∀(ro:Option Nat) (lo:Nat) (m:Mp) (S:Nat->Prop) (w:yh) (a:Act),Au ro w->cF O m S w s.tm a.tmps->bg O m S w s.hp s.ct->s.base<=s.ct->(O.hint h).n<=a.tmps.size->O.w0.heap.size<=lo->lo<=w.heap.size->Marks lo S w a.defers->
    Code.roundsIn (WF ro) 0 O.P x (fj O m S w s ex s' a.tmps.size lo) K a w:=by
   intro j
   induction j with
   | zero=>
    intro hj s ex s' hv;simp only [bL] at hv
    cases hx:bL O.prog O.aU (ev O.prog O.aU 0) x' (bA ((O.hint h).live l) s) with
    | none=>simp [hx] at hv
    | some q=>
     obtain ⟨ex1,s1⟩:=q;have stop:ex1≠.normal->ex=ex1/\s'=s1:=by
      intro ew;rw [hx] at hv
      cases ex1 with
      | normal=>exact absurd rfl ew
      | ret=>simp only [yc,yk] at hv;exact ⟨hv.1.symm,hv.2.symm⟩
      | exit id=>simp only [yc,yk] at hv;exact ⟨hv.1.symm,hv.2.symm⟩
     refine ⟨1,fun ro lo m S w a dF ht hh hb hn bt fJ dc=>?_⟩;rw [roundsIn_succ];obtain ⟨m1,c1,c2,c3,c4,c5⟩:=Sb (live:=(O.hint h).live l) ht hh hb;have h1:=ih (l+1) k 0 hj _ ex1 s1 (by rw [zR];exact hx) ro lo m1 S w a dF c1 c2 (by rw [c3];exact c4) hn bt fJ dc
     refine wpIn_mono h1 ?_;rintro e a1 w1 hp;have ao:=fj.then (O:=O) (m:=m) (S:=S) (w:=w) (s:=s) (ex1:= .normal) c3 c5 hp;obtain ⟨rfl,_⟩:=hp
     cases ex1 with
     | normal=>simp only [hx,JG] at hv;cases hv
     | ret=>obtain ⟨rfl,rfl⟩:=stop (by simp);exact ao
     | exit id=>obtain ⟨rfl,rfl⟩:=stop (by simp);exact ao
   | succ j ihj=>
    intro hj s ex s' hv;simp only [bL] at hv
    cases hx:bL O.prog O.aU (ev O.prog O.aU (j+1)) x' (bA ((O.hint h).live l) s) with
    | none=>simp [hx] at hv
    | some q=>
     obtain ⟨ex1,s1⟩:=q;have stop:ex1≠.normal->ex=ex1/\s'=s1:=by
      intro ew;rw [hx] at hv
      cases ex1 with
      | normal=>exact absurd rfl ew
      | ret=>simp only [yc,yk] at hv;exact ⟨hv.1.symm,hv.2.symm⟩
      | exit id=>simp only [yc,yk] at hv;exact ⟨hv.1.symm,hv.2.symm⟩
     have more:∃K,ex1= .normal->∀(ro:Option Nat) (lo:Nat) (m:Mp) (S:Nat->Prop) (w:yh) (a:Act),Au ro w->cF O m S w s1.tm a.tmps->bg O m S w s1.hp s1.ct->s1.base<=s1.ct->(O.hint h).n<=a.tmps.size->O.w0.heap.size<=lo->lo<=w.heap.size->Marks lo S w a.defers->
       Code.roundsIn (WF ro) 0 O.P x (fj O m S w s1 ex s' a.tmps.size lo) K a w:=by
      cases ex1 with
      | normal=>
       rw [hx] at hv;have eZ:ev O.prog O.aU (j+1) (.loop ((O.hint h).live l) x') s1=some (ex,s'):=hv;rw [JH] at eZ;obtain ⟨K,hK⟩:=ihj (by omega) s1 ex s' eZ;exact ⟨K,fun _=>hK⟩
      | ret=>exact ⟨0,fun h=>by cases h⟩
      | exit id=>exact ⟨0,fun h=>by cases h⟩
     obtain ⟨K,hK⟩:=more;refine ⟨K+1,fun ro lo m S w a dF ht hh hb hn bt fJ dc=>?_⟩;rw [roundsIn_succ];obtain ⟨m1,c1,c2,c3,c4,c5⟩:=Sb (live:=(O.hint h).live l) ht hh hb;have h1:=ih (l+1) k (j+1) hj _ ex1 s1 (by rw [zR];exact hx) ro lo m1 S w a dF c1 c2 (by rw [c3];exact c4) hn bt fJ dc
     refine wpIn_mono h1 ?_;rintro e a1 w1 hp;have ao:=fj.then (O:=O) (m:=m) (S:=S) (w:=w) (s:=s) (ex1:= .normal) c3 c5 hp;obtain ⟨rfl,_⟩:=hp
     cases ex1 with
     | normal=>
      simp only [rJ,Exit.then];obtain ⟨_,m2,S2,g1,g2,g3,g4,g5,g6,g7⟩:=ao;have h2:=hK rfl ro lo m2 S2 w1 a1 (No g5 dF) g1 g2 (by rw [g3];exact g4) (by rw [g6];exact hn) bt (xp fJ g5.size) g7
      rw [g6] at h2;revert h2;generalize hA:a.tmps.size=sz;intro h2;have step:∀(K:Nat) (a':Act) (w':yh),Code.roundsIn (WF ro) 0 O.P x (fj O m2 S2 w1 s1 ex s' sz lo) K a' w'->Code.roundsIn (WF ro) 0 O.P x (fj O m S w s ex s' sz lo) K a' w':=by
       intro K
       induction K with
       | zero=>intro a' w' CX;exact CX
       | succ K ihK=>
        intro a' w' CX;rw [roundsIn_succ] at CX ⊢;refine wpIn_mono CX (fun e a'' EF hq=>?_)
        cases e with
        | normal=>exact ihK a'' EF hq
        | exit id=>exact fj.then (ex1:= .normal) g3 g5 hq
        | goto x=>exact fj.then (ex1:= .normal) g3 g5 hq
        | ret=>exact fj.then (ex1:= .normal) g3 g5 hq
        | panic x=>exact fj.then (ex1:= .normal) g3 g5 hq
        | outgrown=>exact fj.then (ex1:= .normal) g3 g5 hq
      exact step K a1 w1 h2
     | ret=>obtain ⟨rfl,rfl⟩:=stop (by simp);exact ao
     | exit id=>obtain ⟨rfl,rfl⟩:=stop (by simp);exact ao
  obtain ⟨K,hK⟩:=rounds j hj s ex s' hv;intro ro lo m S w a dF ht hh hb hn bt fJ dc;exact wpIn_loop_rounds K (hK ro lo m S w a dF ht hh hb hn bt fJ dc)
 | scope x ih=>
  intro l k j hj s ex s' hv ro lo m S w a dF ht hh hb hn bt fJ dc;simp only [comp] at hv;exact ale (ih l k j hj s ex s' hv ro lo m S w a dF ht hh hb hn bt fJ dc) (fun l a w=>fj.none l)
 | rangeFunc f ps as_ body iha ihb=>
  intro l k j hj s ex s' hv;simp only [comp] at hv;generalize zR:comp O.P (O.hint h) as_ l k=qx at hv;obtain ⟨x',l1,k1⟩:=qx;simp only at hv;generalize LU:comp O.P (O.hint h) body l1 k1=qy at hv;obtain ⟨y',l2,k2⟩:=qy;simp only at hv
  cases ha:AG (O.hint h).n ps.toList with
  | false=>rw [ha] at hv;exact (Vx hv).elim
  | true=>
   rw [ha] at hv;exact avz hO (hC j hj) ⟨l,k,by rw [zR]⟩ ⟨l1,k1,by rw [LU]⟩ ha hv
end
end
section
open Go
section
variable {O:bD} {m:Mp} {S:Nat->Prop} {w:yh}
def aa9:∀(vals:List AV) (j i:Nat),ab (fM j vals) (j+i)=vals.getD i .undef
 | [],j,i=>by simp [fM,ab]
 | v::r,j,i=>by
  cases i with
  | zero=>simp [fM,ab]
  | succ i=>
   simp only [fM,ab];have hb:yx j (j+(i+1))=false:=by
    cases hq:yx j (j+(i+1)) with
    | false=>rfl
    | true=>have:=yo hq;omega
   rw [hb,show j+(i+1)=j+1+i by omega];rw [aa9 r (j+1) i]
   simp
def aba {vals:List AV} {args:Array yf} (n:Nat) (h:au O.ai m S w vals args.toList):cF O m S w (fM 0 vals) (args++vJ n undef):=by
 intro i
 have:=aa9 vals 0 i
 rw [yd] at this;rw [this,List.getD_eq_getElem?_getD]
 cases hv:vals[i]? with
 | none=>simp only [Option.getD_none,aj]
 | some v=>
  obtain ⟨u,h1,h2⟩:=SY h hv;have hl:i<args.size:=by
   grind
  have:(args++vJ n undef).getD i undef=u:=by
   rw [wV,Array.getElem?_append_left hl]
   grind
  grind
def GF (tmps:Array yf):ybX->Sem yf
 | .tmp t=>pure (tmps.getD t undef)
 | .cell a t=>do loadVar t (<-asAddr (tmps.getD a undef))
def alf (fn:tC) (tmps:Array yf):results fn tmps=(do let vs <-fn.results.mapM (GF tmps);pure (if h:vs.size=1 then vs[0] else .tuple vs)):=by
 rfl
def Sd {s:St} {ct:Nat} {tmps:Array yf} (hh:bg O m S w s.hp ct) (ht:cF O m S w s.tm tmps):∀{rs:List ybX} {rv:List RV} {vs:List AV},pL O.P rs=some rv->mw s rv=some vs->
  ∃us,(rs.mapM (GF tmps)).run O.P w= .ok us w/\au O.ai m S w vs us
 | [],rv,vs,h1,h2=>by
  simp only [pL,yc] at h1;subst h1;simp only [mw,yc] at h2;subst h2;exact ⟨[],by simp,by simp [au]⟩
 | .tmp t::rs,rv,vs,h1,h2=>by
  simp only [pL] at h1
  cases hc:pL O.P rs with
  | none=>simp [hc] at h1
  | some l=>
   simp only [hc,yc] at h1;subst h1;simp only [mw,results1] at h2
   cases hl:mw s l with
   | none=>simp [hl] at h2
   | some WR=>
    simp only [hl,yc] at h2;subst h2;obtain ⟨us,g1,g2⟩:=Sd hh ht hc hl;refine ⟨tmps.getD t undef::us,?_,by simp only [au];exact ⟨_,_,rfl,ht t,g2⟩⟩
    rw [vT];simp only [GF,Sem.run_bind,Sem.run_pure,Result.andThen_ok];rw [g1];rfl
 | .cell a t::rs,rv,vs,h1,h2=>by
  simp only [pL] at h1
  cases hz:da O.P t with
  | none=>simp [hz] at h1
  | some sz=>
   cases LV:eD O.P t with
   | none=>simp [hz,LV] at h1
   | some ag=>
    cases hc:pL O.P rs with
    | none=>simp [hz,LV,hc] at h1
    | some l=>
     simp only [hz,LV,hc,yc] at h1;subst h1;simp only [mw] at h2
     cases bS:results1 s (.cell a sz ag) with
     | none=>simp [bS] at h2
     | some v=>
      cases hl:mw s l with
      | none=>simp [bS,hl] at h2
      | some WR=>
       simp only [bS,hl,yc] at h2;subst h2;obtain ⟨us,g1,g2⟩:=Sd hh ht hc hl;have ra:=ht a;have key:∃b o u,tmps.getD a undef= .pointer (some ⟨b,o,none⟩)/\(loadVar t ⟨b,o,none⟩).run O.P w= .ok u w/\aj O.ai m S w v u:=by
        simp only [results1] at bS;cases hta:ab s.tm a<;>rw [hta] at bS ra<;>simp only [reduceCtorEq] at bS
        ·rename_i id o;simp only [aj] at ra;obtain ⟨p,hm,hp⟩:=ra
         cases hg:ap s.hp id with
         | none=>simp [hg] at bS
         | some ob=>
          cases ob<;>simp only [hg,reduceCtorEq] at bS
          have Xm:=SX (o:=0) (n:=0) hh hg hm;obtain ⟨u,q1,q2⟩:=N2 hz LV (sG o _ p.b p.o Xm) bS;exact ⟨p.b,p.o+o,u,hp,q1,q2⟩
        ·rename_i cs;simp only [aj] at ra;obtain ⟨b,o,hp,_,_,Xm⟩:=ra;obtain ⟨u,q1,q2⟩:=N2 hz LV Xm bS;exact ⟨b,o,u,hp,q1,q2⟩
       obtain ⟨b,o,u,q1,q2,q3⟩:=key;refine ⟨u::us,?_,by simp only [au];exact ⟨_,_,rfl,q3,g2⟩⟩
       rw [vT]
       have:(GF tmps (.cell a t)).run O.P w= .ok u w:=by
        simp only [GF];rw [q1];simp [asAddr,q2]
       rw [Sem.run_bind,this,Result.andThen_ok,Sem.run_bind,g1];rfl
def akB {s:St} {ct:Nat} {tmps:Array yf} {fn:tC} {rv:List RV} {v:AV} (hh:bg O m S w s.hp ct) (ht:cF O m S w s.tm tmps) (h1:pL O.P fn.results.toList=some rv) (h2:gX s rv=some v):
  ∃u,(results fn tmps).run O.P w= .ok u w/\aj O.ai m S w v u:=by
 unfold gX at h2
 cases hl:mw s rv with
 | none=>simp [hl] at h2
 | some vs=>
  obtain ⟨us,g1,g2⟩:=Sd hh ht h1 hl;have hlen:=jo _ _ g2;have hm:(fn.results.mapM (GF tmps)).run O.P w= .ok us.toArray w:=by
   rw [Array.mapM_eq_mapM_toList];simp [g1]
  have fW:(results fn tmps).run O.P w= .ok (if h:us.toArray.size=1 then us.toArray[0] else .tuple us.toArray) w:=by
   rw [alf,Sem.run_bind,hm];rfl
  rw [hl] at h2
  split at h2
  ·rename_i v' po;simp only [yc] at po h2;subst po;simp only [au] at g2
   grind
  ·rename_i eK ew po;simp only [yc] at po h2;subst po;subst h2;have h1:¬us.toArray.size=1:=by
    intro h
    have:vs.length=1:=by simp_all
    cases vs with
    | nil=>simp at this
    | cons x t=>
     cases t with
     | nil=>exact ew x rfl
     | cons y t=>simp at this
   simp only [aj]
   grind
  ·grind
def SC {s:St} {tmps:Array yf} {fn:tC} {rv:List RV} {v:AV} {m0:Mp} {S0:Nat->Prop} {w0:yh} {hp0:Hp} {QC:Nat} (h1:pL O.P fn.results.toList=some rv) (h2:gX s rv=some v) (fI:QC<=s.ct):∀(rs:List Nat) (w:yh),
  rs.Nodup->(∀r,r∈rs->w.heap[r]? =some (.deferred (some []))/\¬S r/\w0.heap.size<=r)->O.w0.heap.size<=w0.heap.size->bg O m S w s.hp s.ct->cF O m S w s.tm tmps->cG m0 S0 w0 hp0 m S w s.hp QC->
  ybZ Fence.wide 0 O.P fn tmps (Ae O m0 S0 w0 hp0 QC v s.hp s.ct) (rs.map (fun r=>{target:= .collected r,args:=#[]})) .returning w
 | [],w,_,_,_,hh,ht,hf=>by
  obtain ⟨u,g1,g2⟩:=akB hh ht h1 h2;exact ⟨u,g1,u,m,S,rfl,hh,fI,g2,hf⟩
 | r::rs,w,mo,hr,bt,hh,ht,hf=>by
  obtain ⟨gE,eQ⟩:=List.nodup_cons.1 mo;obtain ⟨a1,a2,a3⟩:=hr r List.mem_cons_self;have gA:=Fo w r (.deferred none);have pg:¬eL m s.hp r:=fun ho=>ab4 hh ho _ a1
  have CX:=aah hh gA a2 pg (xp bt a3)
  have bh:gI S w {w with heap:=w.heap.setIfInBounds r (.deferred none)}:=fun b hb=>gA.other b (fun e=>a2 (e▸hb))
  have nG:cG m0 S0 w0 hp0 m S {w with heap:=w.heap.setIfInBounds r (.deferred none)} s.hp QC:=by
   refine ⟨hf.os,hf.tape,hf.output,by rw [gA.size];exact hf.size,fun b hb ho=>(gA.other b (by omega)).trans (hf.same b hb ho),hf.sub,fun b hb=>(gA.other b (fun e=>a2 (e▸hf.sub b hb))).trans (hf.still b hb),hf.new,hf.own,hf.old,fun b x hb=>?_⟩
   obtain ⟨x',hx⟩:=hf.loops b x hb;exact ⟨x',(gA.other b (fun e=>by subst e;rw [a1] at hx;cases hx)).trans hx⟩
  refine ⟨by simp,.inl ⟨r,_,rfl,?_,SC h1 h2 fI rs _ eQ (fun r' bW=>?_) bt CX (BO (fun _ _ h=>h) (fun _ h=>h) bh ht) nG⟩⟩
  ·simp only [Instr.takeDeferred,Sem.run_bind,aai (P:=O.P) a1 (fun _ _ _=>by simp),Result.andThen_ok,M7 (P:=O.P) a1 (fun _ _ _=>by simp),Sem.run_pure]
  ·obtain ⟨b1,b2,b3⟩:=hr r' (List.mem_cons_of_mem _ bW);exact ⟨(gA.other r' (fun e=>gE (e▸bW))).trans b1,b2,b3⟩
end
section
variable {O:bD} {self:cT}
def avB (hO:eP O) (hS:∀v s ex s',self v s=some (ex,s')->∀c h l k,(comp O.P (O.hint h) c l k).1=v->Cj O h c s ex s') {n:Nat} {F:aJ} (hF:O.prog n=some F) {hp:Hp} {ct:Nat} {vals:List AV} {ex:Ex} {s:St}
  (hv:self F.body ⟨fM 0 vals,hp,ct,ct⟩=some (ex,s)) (hex:ex= .normal\/ex= .ret) {v:AV} (hr:gX s F.dM=some v):Ci O n hp ct vals v s.hp s.ct:=by
 intro m S w args hh iq;obtain ⟨fn,q1,q2,q3⟩:=hO.prog n F hF;obtain ⟨c,q4,q5,q6,q7⟩:=RY q2;refine .inl ⟨NL q1 (by rw [q4];rfl) q3,?_⟩
 have hc:=hS _ _ _ _ hv c n 0 0 q5.symm;have hw:=hc none w.heap.size m S w {tmps:=args++vJ (fn.ntmps-args.size) undef,defers:=[]} (fun l hl=>by cases hl) (aba _ iq) hh (yB _) (by simp;omega) hh.gK (yB _) ⟨[],rfl,by simp,by simp⟩
 refine callsIn_of_wp_marks (F:=Fence.wide) q1 q4 trivial (wpIn_mono hw ?_);rintro e a' w' ⟨rfl,m',S',k1,k2,k3,k4,k5,k6,rs,k7,k8,k9⟩;have main:ybZ Fence.wide 0 O.P fn a'.tmps (Ae O m S w hp ct v s.hp s.ct) a'.defers .returning w':=by
  rw [k7];exact SC q6 hr k4 rs w' k8 k9 hh.gK k2 k1 k5
 rcases hex with rfl | rfl
 ·exact main
 ·exact main
def BY.mono {P:y7} {f:tQ} {args:Array yf} {w:yh} {R R':Ending->yh->Prop} (h:BY P f args w R) (hr:∀e w',R e w'->R' e w'):BY P f args w R':=by
 rcases h with ⟨h1,h2⟩ | ⟨u,w',h1,h2⟩
 ·exact .inl ⟨h1,CallsIn.mono h2 hr⟩
 ·exact .inr ⟨u,w',h1,hr _ _ h2⟩
def amo {w:yh} {S:Nat->Prop} (hg:Ch O w) (hs:∀b,S b->b<w.heap.size):bg O fE S w [] 0:=
 ⟨(fun id o p h _=>by simp [ap] at h),(fun id p h=>by cases h),(fun i j oi oj pi pj h=>by simp [ap] at h),hs,(fun id p h=>by cases h),(fun id p h=>by cases h),hg.1,hg.2,(fun id o h=>by simp [ap] at h)⟩
def Tb {b:Nat} (h:eL fE [] b):False:=by
 obtain ⟨_,_,_,h,_⟩:=h;simp [ap] at h
def RU {n:Nat} {vals:List AV} {v r:AV} {s:St} (h:Ci O n [] 0 vals v s.hp s.ct) (hr:result s.hp v=some r):eX O n vals r:=by
 intro w S args hg hs iq hp;refine BY.mono (h fE S w args (amo hg hs) iq) ?_;rintro e w' ⟨u,m',S',rfl,k1,k2,k3,k4⟩;have bt:∀b,eL m' s.hp b->w.heap.size<=b:=fun b hb=>(k4.own b hb).elim (fun h=>(Tb h).elim) (fun h=>h)
 obtain ⟨S2,g1,g2,g3,g4⟩:=amf (lo:=w.heap.size) k1 hr k3 bt;refine ⟨u,S2,rfl,⟨k4.os,k4.tape,k4.output,k4.size,fun b hb=>k4.same b hb Tb⟩,fun b hb=>g1 b (k4.sub b hb),fun b hb=>?_,g3,g4⟩;rcases g2 b hb with h | h
 ·rcases k4.new b h with h | h | h
  ·exact .inl h
  ·exact (Tb h).elim
  ·exact .inr h
 ·exact .inr (bt b h)
def alg (hO:eP O) (hS:∀v s ex s',self v s=some (ex,s')->∀c h l k,(comp O.P (O.hint h) c l k).1=v->Cj O h c s ex s'):oG O self:=by
 have heap:∀(n:Nat) (F:aJ),O.prog n=some F->∀(hp:Hp) (ct:Nat) (vals:List AV) (ex:Ex) (s:St) (v:AV),self F.body ⟨fM 0 vals,hp,ct,ct⟩=some (ex,s)->(ex= .normal\/ex= .ret)->gX s F.dM=some v->Ci O n hp ct vals v s.hp s.ct:=
  fun n F hF hp ct vals ex s v h1 h2 h3=>avB hO hS hF h1 h2 h3
 refine ⟨?_,?_,fun hp ct l xs v ao bj hv=>aok hS hv⟩
 ·intro n vals r hv;unfold bY at hv
  cases hL:O.aU.pure n with
  | some sp=>rw [hL] at hv;exact hO.aU n sp vals r hL hv
  | none=>
   simp only [hL] at hv
   cases hF:O.prog n with
   | none=>simp [hF] at hv
   | some F=>
    simp only [hF] at hv
    split at hv
    ·rename_i s hb
     cases hr:gX s F.dM with
     | none=>simp [hr] at hv
     | some v=>simp only [hr] at hv;exact RU (heap n F hF [] 0 vals .normal s v hb (.inl rfl) hr) hv
    ·rename_i s hb
     cases hr:gX s F.dM with
     | none=>simp [hr] at hv
     | some v=>simp only [hr] at hv;exact RU (heap n F hF [] 0 vals .ret s v hb (.inr rfl) hr) hv
    ·cases hv
 ·intro hp ct n vals v ao bj hv;unfold iS at hv
  cases hL:O.aU.heap n with
  | some sp=>rw [hL] at hv;exact hO.GD n sp hp ct vals v ao bj hL hv
  | none=>
   simp only [hL] at hv
   cases hF:O.prog n with
   | none=>simp [hF] at hv
   | some F=>
    grind
def ZN (hO:eP O):∀n,oG O (ev O.prog O.aU n):=by
 intro n
 induction n using Nat.strongRecOn with
 | _ n ih=>
  refine alg hO (fun v s ex s' hv c h l k hc=>?_)
  cases n with
  | zero=>rw [JG] at hv;cases hv
  | succ n=>
   rw [JH,<-hc] at hv;exact adl hO n (fun k hk=>ih k (by omega)) h c l k n (yB _) s ex s' hv
def sound (hO:eP O) {n f:Nat} {vals:List AV} {r:AV} (h:WS O.prog O.aU n f vals=some r):eX O f vals r:=(ZN hO n).pure f vals r h
end
end
end VE
