import Derived.LoopNIn
import Derived.RangeFuncIn
import Derived.Test.YtflgmingejdfnaaGreatDoorTaf
import Derived.Test.YtflgmingejdfnaaGreatDoorTaa
set_option linter.all false
set_option maxRecDepth 100000
open Array renaming getD_eq_getD_getElem?→wh,getElem?_eq_some_iff→y5,replicate→wG
open Bool renaming and_eq_true→ye
open Go renaming Code→vw,Deferred→yaQ,Exit→vQ,Func→uF,FuncId→uE,LeavesInM→yaR,Loop→vz,Oper→yI,Program→yJ,ResultVar→yaO,Value→yd,World→yf
open List renaming mapM_cons→wS
open Nat renaming beq→yk,eq_of_beq_eq_true→yh,le_refl→yC,le_trans→xz,zero_add→yp,zero_le→tX
open Option.some renaming injEq→yb
open Prod.mk renaming injEq→yg
namespace VE
section
open Go
def X6 {F:Fence} {n:Nat} {P:yJ} {Q:vQ->Act->yf->Prop} {a:Act} {w:yf} {c:vw} (h:c.wpIn F n P Q a w) (hg:∀l a w,¬Q (.goto l) a w):(Code.scope c).wpIn F n P Q a w:=by
 intro b k cs cC hb hr;have h0:(lone (b.atR a (.code (.scope c)::k)) cs w).fenced P F:=fenced_calm hb hr rfl;have s0:step P (lone (b.atR a (.code (.scope c)::k)) cs w)= .next (lone (b.atR a (.code c:: .inScope c::k)) cs w):=step_lone_go (by simp [stepG,stepG.exec,Frame.atR]);obtain ⟨e,a₁,w₁,hq,rk⟩:=h b (.inScope c::k) cs cC hb hr;have hx:∀id,exitTo id (.inScope c::k)=exitTo id k:=fun id=>by simp [exitTo]
 cases e with
 | normal=>
  have s1:step P (lone (b.atR a₁ (.inScope c::k)) cs w₁)= .next (lone (b.atR a₁ k) cs w₁):=step_lone_go (by simp [stepG,stepG.exec,Frame.atR]);exact ⟨.normal,a₁,w₁,hq,.head h0 s0 (StepsIn.trans rk (.one (fenced_calm hb hr rfl) s1))⟩
 | exit id=>
  exact ⟨.exit id,a₁,w₁,hq,fun k' hk=> .head h0 s0 (rk.1 k' (by rw [hx];exact hk)),fun dG hk=>let ⟨k₁,h1,h2⟩:=rk.2 dG (by rw [hx];exact hk);⟨k₁,h1,.head h0 s0 h2⟩⟩
 | goto l=>exact (hg _ _ _ hq).elim
 | ret=>exact ⟨_,a₁,w₁,hq,.of_steps (.one h0 s0) rk⟩
 | panic ch=>exact ⟨_,a₁,w₁,hq,.of_steps (.one h0 s0) rk⟩
 | outgrown=>exact ⟨_,a₁,w₁,hq,.of_steps (.one h0 s0) rk⟩
def lE:Ex->vQ
 | .normal=> .normal
 | .ret=> .ret
 | .exit id=> .exit id
def Marks (lo:Nat) (S:Nat->Prop) (w:yf) (ds:List yaQ):Prop:=∃rs:List Nat,ds=rs.map (fun r=>{target:= .collected r,args:=#[]})/\rs.Nodup/\
 ∀r,r∈rs->w.heap[r]? =some (.deferred (some []))/\¬S r/\lo<=r
def oL (ro:Option Nat) (w:yf):Prop:=∀l,ro=some l->∃r:vz,w.heap[l]? =some (.loop r)
section
variable {O:a8} {m:Mp} {S:Nat->Prop} {w:yf} {hp:Hp} {ct:Nat}
def Od (hh:aJ O m S w hp ct) {b:Nat} (h:da m hp b):∀x,w.heap[b]?≠some (.deferred x):=by
 intro x hx;obtain ⟨id,o,p,h1,h2,rfl⟩:=h;have h3:=hh.obj id o p h1 h2
 cases o with
 | cells rw pu ex sz cs=>obtain ⟨q,arr,t,g1,g2,_⟩:=h3;rw [h2] at g1;injection g1 with g1;subst g1;rw [hx] at g2;cases g2
 | mp rw ks vs=>obtain ⟨q,es,clock,g1,g2,_⟩:=h3;rw [h2] at g1;injection g1 with g1;subst g1;rw [hx] at g2;cases g2
 | si s pos=>obtain ⟨q,t,g1,g2,_⟩:=h3;rw [h2] at g1;injection g1 with g1;subst g1;rw [hx] at g2;cases g2
 | lp tm ps as_ body st pe=>obtain ⟨q,l,hi,g1,g2,_⟩:=h3;rw [h2] at g1;injection g1 with g1;subst g1;rw [hx] at g2;cases g2
def qh (hh:aJ O m S w hp ct) {m':Mp} {S':Nat->Prop} {w':yf} {ai:Hp} {base lo:Nat} (hf:bK m S w hp m' S' w' ai base) {ds:List yaQ} (h:Marks lo S w ds):Marks lo S' w' ds:=by
 obtain ⟨rs,h1,h2,h3⟩:=h;refine ⟨rs,h1,h2,fun r hr=>?_⟩;obtain ⟨this,h4,h5⟩:=h3 r hr;have aV:=(y5.1 this).1;have jZ:¬da m hp r:=fun ho=>Od hh ho _ this
 refine ⟨(hf.same r aV jZ).trans this,fun hs=>?_,h5⟩;rcases hf.new r hs with h | h | h
 ·grind
 ·grind
 ·omega
def HA {m':Mp} {S':Nat->Prop} {w':yf} {ai:Hp} {base:Nat} {ro:Option Nat} (hf:bK m S w hp m' S' w' ai base) (h:oL ro w):oL ro w':=fun l hl=>
 let ⟨r,hr⟩:=h l hl
 hf.loops l r hr
def dK (O:a8) (m:Mp) (S:Nat->Prop) (w:yf) (s:St) (ex:Ex) (s':St) (n lo:Nat) (e:vQ) (a':Act) (w':yf):Prop:=
 e=lE ex/\∃m' S',bM O m' S' w' s'.tm a'.tmps/\aJ O m' S' w' s'.hp s'.ct/\s'.base=s.base/\s.base<=s'.ct/\bK m S w s.hp m' S' w' s'.hp s.base/\a'.tmps.size=n/\Marks lo S' w' a'.defers
def qY (O:a8) (h:Nat) (c:vw) (s:St) (ex:Ex) (s':St):Prop:=
 ∀(ro:Option Nat) (lo:Nat) (m:Mp) (S:Nat->Prop) (w:yf) (a:Act),oL ro w->bM O m S w s.tm a.tmps->aJ O m S w s.hp s.ct->s.base<=s.ct->(O.hint h).n<=a.tmps.size->O.w0.heap.size<=lo->lo<=w.heap.size->Marks lo S w a.defers->
  c.wpIn (WF ro) 0 O.P (dK O m S w s ex s' a.tmps.size lo) a w
structure ek (O:a8):Prop where
 hint:∀h,dY O (O.hint h)
 mixed:O.P.follows .mixedOrders=true
 prog:∀n F,O.prog n=some F->∃fn,O.P.funcs[O.ae n]? =some fn/\sW O.P (O.hint n) fn=some F/\fn.name≠ "runtime.NumGoroutine"
 aK:∀n sp ap r,O.aK.pure n=some sp->sp ap=some r->dQ O n ap r
 E9:∀n sp hp ct ap v ai aO,O.aK.heap n=some sp->sp hp ct ap=some (v,ai,aO)->qX O n hp ct ap v ai aO
def DY {P:yJ} {H:Hint} {ops:Array yI}:∀(rs:List aU) (l:List yI) (done:List aU) (ms:List Nat),jq P H ops rs l->jq P H ops (nD done rs ms) l
 | [],l,done,ms,h=>by
  cases ms<;>simpa only [nD] using h
 | r::rs,[],done,ms,h=>by simp [jq] at h
 | r::rs,o::l,done,[],h=>by
  obtain ⟨d,g,op⟩:=r;cases op<;>simpa only [nD] using h
 | r::rs,o::l,done,m::ms,h=>by
  obtain ⟨h1,h2⟩:=h;obtain ⟨d,g,op⟩:=r
  cases op with
  | fg FT f xs=>
   refine ⟨?_,DY rs l _ ms h2⟩;rcases h1 with h1 | ⟨_,h1⟩
   ·refine .inl ⟨?_,h1.dst,h1.ok,h1.guard⟩;obtain ⟨c,f',g1,g2,g3,g4⟩:=HX h1.op;rw [g3,g4];exact .inr (.inl ⟨c,f',_,g1,g2,rfl⟩)
   ·simp [bad] at h1
  | st sz x y=>
   refine ⟨?_,DY rs l _ ms h2⟩;rcases h1 with h1 | ⟨_,h1⟩
   ·refine .inl ⟨?_,h1.dst,h1.ok,h1.guard⟩;unfold stOp
    split
    ·exact h1.op
    ·obtain ⟨t,x',y',g1,g2,g3,g4⟩:=ahr h1.op;exact .inr (.inr ⟨t,x',y',sz,_,g1,g2,by rw [g3,g4]⟩)
   ·simp [bad] at h1
  | _=>
   exact ⟨h1,DY rs l _ ms h2⟩
end
section
variable {O:a8} {self:b9}
def Oe {P:yJ} {H:Hint} {ops:Array yI}:∀{rs:List aU} {l:List yI},jq P H ops rs l->rs.length=l.length/\∀(i:Nat) (r:aU) (o:yI),rs[i]? =some r->l[i]? =some o->EJ P H ops r o\/(r.guard=none/\r.op=bad)
 | [],[],_=>⟨rfl,fun i r o h=>by simp at h⟩
 | [],_::_,h=>by simp [jq] at h
 | _::_,[],h=>by simp [jq] at h
 | r::rs,o::l,h=>by
  obtain ⟨h1,h2⟩:=Oe h.2;refine ⟨by simp [h1],fun i r' o' hr ho=>?_⟩
  cases i with
  | zero=>simp at hr ho;subst hr;subst ho;exact h.1
  | succ i=>exact h2 i r' o' (by simpa using hr) (by simpa using ho)
def Y4 {m:Mp} {S:Nat->Prop} {w:yf} {hp:Hp} {ct:Nat} (hh:aJ O m S w hp ct):Calm w {w with drawn:=w.drawn+1}:=⟨rfl,rfl,rfl,yC _,fun _ _=>rfl⟩
def aeY (hO:ek O) (hC:jI O self) (h:Nat) (id:Nat) (ops:Array yI) (draw:Bool) (k:Nat) {s s':St} (hv:cM O.prog O.aK self (D6 O.P (O.hint h) ops draw k).1 s=some s'):qY O h (.region id ops draw) s .normal s':=by
 intro ro lo m S w a cC ht hh hb hn cd ez b7;unfold D6 at hv;have FX:=My (P:=O.P) (H:=O.hint h) (ops:=ops) ops.toList k;generalize hq:qB O.P (O.hint h) ops ops.toList k=q at hv FX;obtain ⟨l,k'⟩:=q;simp only at hv FX;have post:∀{a':Act} {m':Mp} {S':Nat->Prop} {w':yf},aJ O m' S' w' s'.hp s'.ct->s.ct<=s'.ct->bM O m' S' w' s'.tm a'.tmps->bK m S w s.hp m' S' w' s'.hp s.ct->a'.tmps.size=a.tmps.size->a'.defers=a.defers->s'.base=s.base->dK O m S w s .normal s' a.tmps.size lo .normal a' w':=by
  intro a' m' S' w' h1 h2 h3 h4 h5 h6 h7;exact ⟨rfl,m',S',h3,h1,h7,by omega,h4.mz hb,h5,by rw [h6];exact qh hh h4 b7⟩
 cases draw with
 | false=>
  simp only [yr] at hv;refine wpIn_region ?_;rw [List.range_eq_range'];have hl:ops.size=ops.toList.length:=by simp
  rw [hl];exact O8 hC (hO.hint h) ops.toList l 0 s s' a m S w (fun j=>by simp) FX hv ht hh hn (fun a' m' S' w' h1 h2 h3 h4 h5 h6 h7=>post h1 h2 h3 h4 h5 h6 h7)
 | true=>
  simp only [yi] at hv
  cases lP:(AK ops.toList 0&&sN [] (nD [] l (iY [] ops.toList)) (iY [] ops.toList)) with
  | false=>
   rw [lP] at hv;simp [cM,bad,aZ,cK,aq] at hv
  | true=>
   rw [lP] at hv;simp only [yi] at hv;simp only [ye] at lP;have Tn:=DY l ops.toList [] (iY [] ops.toList) FX;generalize nD [] l (iY [] ops.toList)=rs at hv lP Tn;obtain ⟨hlen,ak⟩:=Oe Tn;obtain ⟨bG,bz,bl,vF,hR,e1,e2,e3,e4,e5,e6,e7⟩:=O9 hv;have hG:mr O (O.hint h) self ops rs bG bz bl vF:=by
    refine ⟨hR,by rw [hlen];simp,fun i r o hr ho=>?_,fun i j x y KD hx hy=>?_,fun i o ho e he hbd=>?_⟩
    ·rcases ak i r o hr (by simpa using ho) with g | ⟨g1,g2⟩
     ·grind
     ·have:=hR.step i r hr
      simp [eP,g1,kD,g2,bad,aZ,cK,aq] at this
    ·obtain ⟨mm,g1,g2⟩:=LQ (done:=[]) (i:=i) (j:=j) (a:=x) (b:=y) lP.2 (by simpa using hx) hy (by simpa using KD);refine g2.imp (fun g=>?_) (fun g=>by simpa using g);unfold Ord
     grind
    ·have:=LI lP.1 (j:=i) (o:=o) (by simpa using ho) e he hbd
     omega
   refine wpIn_region_any hO.mixed ?_;have BH:=Y4 hh;have iC:=AO hh BH (S':=S) (fun _ h=>h) (fun _ h=> .inl h) hh.slt
   have FR:bK m S w s.hp m S {w with drawn:=w.drawn+1} s.hp (bl 0):=AW hh BH (fun _ h=>h) (fun _ h=> .inl h);obtain ⟨c,c1,c2,c3,c4⟩:=I1 rs rs.length 0 (by omega);have hg:∀k',k'<=c->fy (bz 0) (bl 0) (bz (0+k')) (bl (0+k')):=fun k' pE=>
    DF hR (by rw [e2,e3];exact hh.aV) k' (by omega) (fun j r g1 g2 hr=>A1 hr (c3 j g1 (by omega)))
   have hX:=hg c (yC _);rw [yp] at hX;obtain ⟨S1,g1,g2,g3,g4⟩:=DV (by rw [e2,e3];exact iC:aJ O m S {w with drawn:=w.drawn+1} (bz 0) (bl 0)) hX
   have mq:∀i,(wG ops.size false).getD i false=true->False:=fun i hi=>by
    simp only [wh] at hi
    grind
   refine aeX (m0:=m) (S0:=S) (w0:=w) (n0:=a.tmps.size) (d0:=a.defers) hC (hO.hint h) hG hn (fun a' m' S' w' h1 h2 h3 h4 h5 h6=>?_) ops.size _ 0 c m S1 _ a (by simp) ?_ (fun j o _ hj=>(mq j hj).elim) ?_
   ·rw [e5,e6] at h1;rw [e3,e6] at h2;rw [e4] at h3;rw [e2,e3,e5] at h4;exact post h1 h2 h3 h4 h5 h6 e7
   ·unfold left;rw [List.countP_eq_length.2]
    ·simp
    ·intro i hi;simp only [Bool.not_eq_true']
     cases hq:(wG ops.size false).getD i false with
     | false=>rfl
     | true=>exact (mq i hq).elim
   ·refine ⟨tX _,c2,fun i hi=>by omega,c3,c4.imp (fun h=>h) (fun h=>⟨h,fun hd=>mq c hd⟩),fun i r _ _ _ hd=>mq i hd,g1,fun id p hp=> .inl (by rw [e3];exact hh.lt id p hp),fun t=>⟨0,tX _,fun i r _ _=>⟨fun hd=>(mq i hd).elim,fun h=>by omega⟩,?_⟩,?_,hX.kR,rfl,rfl,.inl rfl,fun j hj=>?_⟩
    ·rw [e1];exact iU (fun _ _ h=>h) (fun b hb=>g2 b hb) (fun b hb=>BH.same b (hh.slt b hb)) _ _ (ht t)
    ·rw [e2];have g5:=g4 (bl 0);rw [e2] at g5;exact FR.trans g5
    ·have:=(hg j hj).lt
     rw [yp] at this;exact this
end
end
section
open Go
section
variable {O:a8} {m:Mp} {S:Nat->Prop} {w:yf} {hp:Hp} {ct:Nat}
def MB (hh:aJ O m S w hp ct) {g:Nat} {w':yf} (hw:One w w' g) (hg:¬S g) (ho:¬da m hp g) (cd:O.w0.heap.size<=g):aJ O m S w' hp ct:=by
 have aT:ej S w w':=fun b hb=>hw.other b (fun e=>hg (e▸hb))
 refine ⟨fun id o p h1 h2=>?_,hh.lt,hh.inj,fun b hb=>by rw [hw.size];exact hh.slt b hb,fun id p h=>by rw [hw.size];exact hh.blt id p h,hh.low,fun b hb=>?_,by rw [hw.size];exact hh.eK,hh.aV⟩
 ·exact ma (fun _ _ h=>h) (fun _ h=>h) aT (fun q hq=>hw.other _ (fun e=>ho ⟨id,o,q,h1,hq,e⟩)) (fun _ _ h=>h) (hh.obj id o p h1 h2)
 ·rw [hw.other b (by omega)];exact hh.iK b hb
def MC {P:yJ} {b:Nat} {o:Go.Obj} (h:w.heap[b]? =some o) (hc:∀c t f,o≠.cells c t f):(getObj b).run P w= .ok o w:=by
 simp only [getObj,Sem.run,h]
def Dv {P:yJ} {b:Nat} {o x:Go.Obj} (h:w.heap[b]? =some o) (hc:∀c t f,o≠.cells c t f):(setObj b x).run P w= .ok () {w with heap:=w.heap.setIfInBounds b x}:=by
 simp only [setObj,Sem.run,h]
def AB {P:yJ} {b:Nat} {r:vz} (h:w.heap[b]? =some (.loop r)):(Instr.getLoop b).run P w= .ok r w:=by
 simp only [Instr.getLoop,Sem.run_bind,MC (P:=P) h (fun _ _ _=>by simp),Result.andThen_ok,Sem.run_pure]
def A2 (hh:aJ O m S w hp ct) {l:Nat} {tm:Env} {ps:List Nat} {as_ body:VC} {st:Nat} {pe:mw} {p:Pl} (hg:ak hp l=some (.lp tm ps as_ body st pe)) (hm:m l=some p):
  ∃(r:vz) (h:Nat),w.heap[p.b]? =some (.loop r)/\¬S p.b/\r.state=oX st/\st<=2/\r.pending=nv pe/\bM O m S w tm r.tmps/\r.params.toList=ps/\px O.P (O.hint h) as_ r.assign/\px O.P (O.hint h) body r.body/\
   (O.hint h).n<=r.tmps.size/\nE (O.hint h).n ps=true:=by
 obtain ⟨q,r,h,g1,g2,g3⟩:=hh.obj l _ p hg hm
 grind
def Nt (hh:aJ O m S w hp ct) {l:Nat} {tm:Env} {ps:List Nat} {as_ body:VC} {st:Nat} {pe:mw} {p:Pl} (hg:ak hp l=some (.lp tm ps as_ body st pe)) (hm:m l=some p) {r:vz} (hr:w.heap[p.b]? =some (.loop r))
  {st':Nat} {pe':mw} (h2:st'<=2):
  aJ O m S {w with heap:=w.heap.setIfInBounds p.b (.loop {r with state:=oX st',pending:=nv pe'})} (aY hp l (.lp tm ps as_ body st' pe')) ct/\
  bK m S w hp m S {w with heap:=w.heap.setIfInBounds p.b (.loop {r with state:=oX st',pending:=nv pe'})} (aY hp l (.lp tm ps as_ body st' pe')) ct:=by
 obtain ⟨r',h,g1,g2,g3,g4,g5,g6,g7,g8,g9,g10,g11⟩:=A2 hh hg hm;rw [hr] at g1;injection g1 with g1
 injection g1 with g1
 subst g1;have fm:=sF w p.b (.loop {r with state:=oX st',pending:=nv pe'})
 refine AT hh hg hm g2 fm ⟨p,{r with state:=oX st',pending:=nv pe'},h,hm,Dr hr,g2,rfl,h2,rfl,?_,g7,g8,g9,g10,g11⟩ (fun _ _=>⟨_,Dr hr⟩);exact ow (fun _ _ h=>h) (fun _ h=>h) (fun b hb=>fm.other b (fun e=>g2 (e▸hb))) g6
def Nv {n:Nat}:∀{ps:List Nat} {vs:List AV} {us:List yd} {tm tm':Env} {tmps:Array yd},lm tm ps vs=some tm'->an O.ae m S w vs us->bM O m S w tm tmps->n<=tmps.size->nE n ps=true->
  ps.length=us.length/\bM O m S w tm' ((ps.zip us).foldl (fun t (x:Nat×yd)=>t.setIfInBounds x.1 x.2) tmps)/\((ps.zip us).foldl (fun t (x:Nat×yd)=>t.setIfInBounds x.1 x.2) tmps).size=tmps.size
 | [],[],us,tm,tm',tmps,h,hr,ht,hn,ha=>by
  simp only [lm,yb] at h;simp only [an] at hr
  simp_all
 | [],_::_,us,tm,tm',tmps,h,hr,ht,hn,ha=>by simp [lm] at h
 | _::_,[],us,tm,tm',tmps,h,hr,ht,hn,ha=>by simp [lm] at h
 | p::ps,v::vs,us,tm,tm',tmps,h,hr,ht,hn,ha=>by
  simp only [lm] at h;obtain ⟨u,t,rfl,h1,h2⟩:=hr;simp only [nE,ye] at ha;have hp:=nn.1 ha.1;have Vp:bM O m S w ((p,v)::tm) (tmps.setIfInBounds p u):=H0 (a:=⟨tmps,[]⟩) (d:=some p) ht (fun i hi=>by injection hi with hi;show i<tmps.size;omega) h1
  obtain ⟨g1,g2,g3⟩:=Nv (n:=n) h h2 Vp (by simpa using hn) ha.2
  simp_all
def aaO (ps:Array Tmp) (args:Array yd) (tmps:Array yd):(ps.zip args).foldl (fun tmps (x:Tmp×yd)=>tmps.setIfInBounds x.1 x.2) tmps=(ps.toList.zip args.toList).foldl (fun t (x:Nat×yd)=>t.setIfInBounds x.1 x.2) tmps:=by
 rw [<-Array.foldl_toList,Array.toList_zip]
def Xh {P:yJ} {b:Nat} {r:vz} (h:w.heap[b]? =some (.loop r)) (jump:Option vw):
  (Instr.endRound b jump).run P w= .ok (.bool jump.isNone) {w with heap:=w.heap.setIfInBounds b (.loop {r with state:=if jump.isNone then .ready else .done,pending:=jump})}:=by
 simp only [Instr.endRound,Sem.run_bind,AB h,Result.andThen_ok,Dv (P:=P) h (fun _ _ _=>by simp),Sem.run_pure]
def W6 {P:yJ} {b:Nat} {r:vz} (h:w.heap[b]? =some (.loop r)) (hs:r.state= .ready):
  (Instr.beginRound b).run P w= .ok () {w with heap:=w.heap.setIfInBounds b (.loop {r with state:= .busy})}:=by
 simp only [Instr.beginRound,Sem.run_bind,AB h,Result.andThen_ok,Dv (P:=P) h (fun _ _ _=>by simp),hs,Sem.run_pure]
def aaP {self:b9} (hS:∀v s ex s',self v s=some (ex,s')->∀c h l k,(comp O.P (O.hint h) c l k).1=v->qY O h c s ex s') {l:Nat} {xs:List AV} {v:AV} {ai:Hp} {aO:Nat}
  (hv:fV self hp ct l xs=some (v,ai,aO)):PP O hp ct l xs v ai aO:=by
 intro m S w args p hh hm fM;unfold fV at hv
 split at hv
 case h_2=>cases hv
 rename_i tm ps as_ body pe hg;obtain ⟨r,h,g1,g2,g3,g4,g5,g6,g7,⟨ca,ka,g8⟩,⟨cb,kb,g9⟩,g10,g11⟩:=A2 hh hg hm
 cases hb:lm tm ps xs with
 | none=>simp [hb] at hv
 | some tm'=>
  simp only [hb] at hv;obtain ⟨b1,b2,b3⟩:=Nv hb fM g6 g10 g11;rw [<-g7] at b1 b2 b3;have eZ:args.size=r.params.size:=by
   grind
  let tmps:Array yd:=(r.params.zip args).foldl (fun tmps (x:Tmp×yd)=>tmps.setIfInBounds x.1 x.2) r.tmps
  have To:tmps=(r.params.toList.zip args.toList).foldl (fun t (x:Nat×yd)=>t.setIfInBounds x.1 x.2) r.tmps:=aaO _ _ _;refine ⟨r.fn,tmps,r.assign,r.body,?_,?_⟩
  ·simp only [Instr.yield,Sem.run_bind,AB g1,Result.andThen_ok,eZ,yap,vo,yM,Sem.run_pure];rfl
  refine roundIn_of_wpIn (F:=Fence.wide) trivial ?_
  cases h1:self as_ ⟨tm',hp,ct,ct⟩ with
  | none=>simp [h1] at hv
  | some q=>
   obtain ⟨ex1,s1⟩:=q
   cases ex1 with
   | ret=>simp [h1] at hv
   | exit id=>simp [h1] at hv
   | normal=>
    simp only [h1] at hv;have fG:=hS _ _ _ _ h1 r.assign h ca ka g8;have cC:∀w',bK m S w hp m S w' hp ct->oL (some p.b) w':=fun w' hf=>HA hf (fun l hl=>⟨r,by injection hl with hl;subst hl;exact g1⟩)
    refine wpIn_mono (fG (some p.b) w.heap.size m S w ⟨tmps,[]⟩ (cC w bK.refl) (by rw [To];exact b2) hh (yC _) (by show _<=tmps.size;rw [To,b3];exact g10) hh.eK (yC _) ⟨[],rfl,by simp,by simp⟩) ?_
    rintro e a1 w1 ⟨rfl,m1,S1,k1,k2,k3,k4,k5,k6,k7⟩;simp only [lE,Exit.then];have pO:m1 l=some p:=k5.old l p (hh.lt l p hm) hm
    split at hv
    case h_2=>cases hv
    rename_i lJ mG rN qU kO hX;obtain ⟨r1,iC,f1,f2,f3,f4,f5,f6,f7,f8,f9,f10,f11⟩:=A2 k2 hX pO;have hbr:=W6 (P:=O.P) f1 f3;obtain ⟨q1,q2⟩:=Nt k2 hX pO f1 (st':=1) (pe':=kO) (by omega)
    have cz:({r1 with state:=oX 1,pending:=nv kO}:vz)={r1 with state:= .busy}:=by rw [<-f5];rfl
    rw [cz] at q1 q2;refine ⟨_,hbr,?_⟩
    cases h2:self body ⟨s1.tm,aY s1.hp l (.lp lJ mG rN qU 1 kO),s1.ct,s1.ct⟩ with
    | none=>simp [h2] at hv
    | some q=>
     obtain ⟨ex,s2⟩:=q;simp only [h2] at hv;have rU:=hS _ _ _ _ h2 r.body h cb kb g9
     have ai9:oL (some p.b) {w1 with heap:=w1.heap.setIfInBounds p.b (.loop {r1 with state:= .busy})}:=fun l hl=>by
      grind
     have KL:bM O m1 S1 {w1 with heap:=w1.heap.setIfInBounds p.b (.loop {r1 with state:= .busy})} s1.tm a1.tmps:=
      ow (fun _ _ h=>h) (fun _ h=>h) (fun b hb=>q2.still b hb) k1
     have aja:(O.hint h).n<=a1.tmps.size:=by
      grind
     refine wpIn_mono (rU (some p.b) w.heap.size m1 S1 _ a1 ai9 KL q1 (yC _) aja hh.eK (xz k5.size q2.size) (qh k2 q2 k7)) ?_;rintro e a2 w2 ⟨rfl,m2,S2,j1,j2,j3,j4,j5,j6,j7⟩;have Vq:m2 l=some p:=j5.old l p (k2.lt l p pO) pO
     split at hv
     case h_2=>cases hv
     rename_i mH pv Cw BD Vr j0;obtain ⟨r2,KM,d1,d2,d3,d4,d5,d6,d7,d8,d9,d10,d11⟩:=A2 j2 j0 Vq;have ajb:bK m S w hp m2 S2 w2 s2.hp ct:=(k5.trans (q2.mz k4)).trans (j5.mz k4);have Tp:ct<=s2.ct:=xz k4 j4;have fin:∀(jump:Option vw) (st':Nat) (pe':mw),nv pe'=jump->oX st'=(if jump.isNone then .ready else .done)->st'<=2->
       ∃v' w',(Instr.endRound p.b jump).run O.P w2= .ok v' w'/\oC O m S w hp ct (.bool jump.isNone) (aY s2.hp l (.lp mH pv Cw BD st' pe')) s2.ct (.returned v') w':=by
      intro jump st' pe' e1 e2 e3;obtain ⟨z1,z2⟩:=Nt j2 j0 Vq d1 (st':=st') (pe':=pe') e3;rw [e1,e2] at z1 z2;exact ⟨_,_,Xh d1 jump,_,m2,S2,rfl,z1,Tp,by simp [af],ajb.trans (z2.mz Tp)⟩
     cases ex with
     | normal=>
      simp only [yb,yg] at hv;obtain ⟨rfl,rfl,rfl⟩:=hv;simp only [lE,roundPost];exact fin none 0 .none rfl rfl (by omega)
     | ret=>
      simp only [IW,yb,yg] at hv;obtain ⟨rfl,rfl,rfl⟩:=hv;simp only [lE,roundPost];exact fin (some .ret) 2 .ret rfl rfl (by omega)
     | exit id=>
      simp only [IW,yb,yg] at hv;obtain ⟨rfl,rfl,rfl⟩:=hv;simp only [lE,roundPost];exact fin (some (.exit id)) 2 (.exit id) rfl rfl (by omega)
end
end
section
open Go
section
variable {O:a8} {self:b9}
def H5 {P:yJ} {f:uE} {fn:uF} {args:Array yd} {w:yf} (hf:P.funcs[f]? =some fn) (hb:fn.body.isSome=true) (hn:fn.name≠ "runtime.NumGoroutine"):(callFunc f args).run P w= .ok (.enter f args) w:=by
 have h1:fn.body≠none:=fun e=>by rw [e] at hb;cases hb
 simp [callFunc,program,Sem.run,hf,h1,hn]
def L8 {P:yJ} {H:Hint} {fn:uF} {F:ax} (h:sW P H fn=some F):∃c,fn.body=some c/\F.body=(comp P H c 0 0).1/\kq P fn.results.toList=some F.dI/\H.n<=fn.ntmps:=by
 unfold sW at h
 split at h
 ·rename_i c rs h1 h2
  cases hb:Nat.ble H.n fn.ntmps with
  | false=>rw [hb] at h;cases h
  | true=>
   rw [hb] at h;simp only [yi,yb] at h;subst h
   simp_all
 ·cases h
def aaQ {m:Mp} {S:Nat->Prop} {w:yf} {hp:Hp} {ct:Nat} {tm:Env} {a:Act} {ro:Option Nat} (fn:uE) (ps:Array Tmp) (assign body:vw) {as_ b':VC} {h:Nat} (hh:aJ O m S w hp ct) (ht:bM O m S w tm a.tmps) (cC:oL ro w)
  (KN:px O.P (O.hint h) as_ assign) (KO:px O.P (O.hint h) b' body) (hn:(O.hint h).n<=a.tmps.size) (lL:nE (O.hint h).n ps.toList=true) {lo:Nat} (ez:lo<=w.heap.size) (b7:Marks lo S w a.defers):
  ∃l mark w1,(Instr.enterLoop fn a.tmps ps assign body ro).run O.P w= .ok (l,mark) w1/\aJ O (dS m ct ⟨l,0,0,0⟩) S w1 ((ct,.lp tm ps.toList as_ b' 0 .none)::hp) (ct+1)/\
   bK m S w hp (dS m ct ⟨l,0,0,0⟩) S w1 ((ct,.lp tm ps.toList as_ b' 0 .none)::hp) ct/\m ct=none/\Marks lo S w1 (mark++a.defers)/\w.heap.size<=l:=by
 have bp:m ct=none:=by
  cases hq:m ct with
  | none=>rfl
  | some p=>have:=hh.lt ct p hq;omega
 have lay:∀(w':yf) (d:Nat),Calm w w'->Marks lo S w' a.defers->
   aJ O (dS m ct ⟨w'.heap.size,0,0,0⟩) S (w'.alloc (.loop {state:= .ready,pending:=none,fn:=fn,tmps:=a.tmps,params:=ps,assign:=assign,body:=body,defers:=d})) ((ct,.lp tm ps.toList as_ b' 0 .none)::hp) (ct+1)/\
   bK m S w hp (dS m ct ⟨w'.heap.size,0,0,0⟩) S (w'.alloc (.loop {state:= .ready,pending:=none,fn:=fn,tmps:=a.tmps,params:=ps,assign:=assign,body:=body,defers:=d})) ((ct,.lp tm ps.toList as_ b' 0 .none)::hp) ct:=by
  intro w' d hw Tq;have iC:aJ O m S w' hp ct:=AO hh hw (fun _ h=>h) (fun _ h=> .inl h) (fun b hb=>Nat.lt_of_lt_of_le (hh.slt b hb) hw.size);have FR:bK m S w hp m S w' hp ct:=AW hh hw (fun _ h=>h) (fun _ h=> .inl h);have hg:fy hp ct ((ct,.lp tm ps.toList as_ b' 0 .none)::hp) (ct+1):=by
   refine ⟨fun id o ho=>⟨o,?_,gw.refl o⟩,by omega,fun id o ho=>?_,fun id o ho hi=>?_⟩
   ·rw [fc,yE (by have:=hh.aV id o ho;omega)];exact ho
   ·rw [fc] at ho;by_cases hc:ct=id
    ·omega
    ·simp only [hc,yM] at ho;have:=hh.aV id o ho;omega
   ·rw [fc,yE (by omega)] at ho;exact ⟨o,ho⟩
  have iB:∀i q,ak ((ct,Obj.lp tm ps.toList as_ b' 0 .none)::hp) i=some q->i≠ct->ak hp i=some q:=fun i q h hi=>by
   rw [fc,yE (fun e=>hi e.symm)] at h;exact h
  have KM:aJ O m S w' ((ct,.lp tm ps.toList as_ b' 0 .none)::hp) (ct+1):=by
   have e9:∀id p,m id=some p->id≠ct:=fun id p hm e=>by have:=hh.lt id p hm;omega
   exact ⟨fun id o p ho hm=>iC.obj id o p (iB id o ho (e9 id p hm)) hm,fun id p hm=>by have:=hh.lt id p hm;omega,
    fun i j oi oj pi pj hi hj bp eG e=>iC.inj i j oi oj pi pj (iB i oi hi (e9 i pi bp)) (iB j oj hj (e9 j pj eG)) bp eG e,iC.slt,iC.blt,iC.low,iC.iK,iC.eK,hg.lt⟩
  have lO:dR O (dS m ct ⟨w'.heap.size,0,0,0⟩) S (w'.alloc (.loop {state:= .ready,pending:=none,fn:=fn,tmps:=a.tmps,params:=ps,assign:=assign,body:=body,defers:=d})) ct (.lp tm ps.toList as_ b' 0 .none):=by
   refine ⟨⟨w'.heap.size,0,0,0⟩,_,h,de,heap_alloc_new w' _,?_,rfl,by omega,rfl,?_,rfl,KN,KO,hn,lL⟩
   ·intro hS
    have:=iC.slt _ hS
    simp at this
   ·exact ow (ic bp) (fun _ h=>h) (fun b hb=>(AF iC _ b hb).trans (hw.same b (hh.slt b hb))) ht
  obtain ⟨S',k1,k2,k3⟩:=N1 (i:=ct) (p:=⟨w'.heap.size,0,0,0⟩) KM bp (by omega) rfl (fun o ho=>by
   rw [fc] at ho;simp only [yR,yb] at ho;subst ho
   exact .inl ⟨lO,by simp [fW]⟩)
  have k1':aJ O (dS m ct ⟨w'.heap.size,0,0,0⟩) S (w'.alloc (.loop {state:= .ready,pending:=none,fn:=fn,tmps:=a.tmps,params:=ps,assign:=assign,body:=body,defers:=d})) ((ct,.lp tm ps.toList as_ b' 0 .none)::hp) (ct+1):=by
   have CD:∀id q,m id=some q->q.b≠w'.heap.size:=fun id q hq=>by have:=iC.blt id q hq;omega
   refine ⟨?_,k1.lt,k1.inj,fun b hb=>k1.slt b (k2 b hb),k1.blt,k1.low,k1.iK,k1.eK,k1.aV⟩;intro id o q ho hm;by_cases hc:id=ct
   ·subst hc;rw [fc] at ho
    grind
   ·rw [dd hc] at hm;exact ma (ic bp) (fun _ h=>h) (AF iC _) (fun q' bI=>alloc_old (iC.blt id q' bI)) (fun _ _ h=>h) (iC.obj id o q (iB id o ho hc) hm)
  refine ⟨k1',FR.trans ⟨rfl,rfl,rfl,by simp,fun b hb _=>alloc_old hb,fun _ h=>h,fun b hb=>AF iC _ b hb,fun b hb=> .inl hb,?_,fun i q _ hq=>ic bp i q hq,fun b r hb=>⟨r,(alloc_old (y5.1 hb).1).trans hb⟩⟩⟩;rintro b ⟨i,o,q,g1,g2,g3⟩;by_cases hc:i=ct
  ·subst hc;rw [de] at g2
   grind
  ·rw [dd hc] at g2;exact .inl ⟨i,o,q,iB i o g1 hc,g2,g3⟩
 cases ro with
 | none=>
  have BH:Calm w (w.alloc (.deferred (some []))):=⟨rfl,rfl,rfl,by simp,fun b hb=>alloc_old hb⟩;obtain ⟨rs,r1,r2,r3⟩:=b7;have ajc:Marks lo S (w.alloc (.deferred (some []))) a.defers:=⟨rs,r1,r2,fun r hr=>⟨(alloc_old (y5.1 (r3 r hr).1).1).trans (r3 r hr).1,(r3 r hr).2⟩⟩;obtain ⟨k1,k2⟩:=lay (w.alloc (.deferred (some []))) w.heap.size BH ajc
  refine ⟨(w.alloc (.deferred (some []))).heap.size,[{target:= .collected w.heap.size,args:=#[]}],_,?_,k1,k2,bp,?_,by simp⟩
  ·simp [Instr.enterLoop,newObj,Sem.run]
  ·have hold:∀(b:Nat) (x:Go.Obj),(w.alloc (.deferred (some []))).heap[b]? =some x->((w.alloc (.deferred (some []))).alloc (.loop {state:= .ready,pending:=none,fn:=fn,tmps:=a.tmps,params:=ps,assign:=assign,body:=body,defers:=w.heap.size})).heap[b]? =some x:=fun b x hb=>
    (alloc_old (y5.1 hb).1).trans hb
   refine ⟨w.heap.size::rs,by rw [r1];rfl,?_,?_⟩
   ·grind
   ·intro r hr;rcases List.mem_cons.1 hr with rfl | hr
    ·exact ⟨hold _ _ (heap_alloc_new w _),fun hs=>by have:=hh.slt _ hs;omega,ez⟩
    ·exact ⟨hold _ _ ((alloc_old (y5.1 (r3 r hr).1).1).trans (r3 r hr).1),(r3 r hr).2⟩
 | some l0=>
  obtain ⟨r0,n7⟩:=cC l0 rfl;obtain ⟨k1,k2⟩:=lay w r0.defers Calm.refl b7;refine ⟨w.heap.size,[],_,?_,k1,k2,bp,?_,yC _⟩
  ·simp [Instr.enterLoop,AB n7,newObj,Sem.run]
  ·exact qh hh k2 b7
def ahs (hO:ek O) (hC:jI O self) {h:Nat} {f:Operand} {ps:Array Tmp} {assign body:vw} {as_ b':VC} (KN:px O.P (O.hint h) as_ assign) (KO:px O.P (O.hint h) b' body) (lL:nE (O.hint h).n ps.toList=true)
  {s:St} {ex:Ex} {s':St} (hv:bj O.prog O.aK self (.rf (aH (O.hint h) f) ps.toList as_ b') s=some (ex,s')):qY O h (.rangeFunc f ps assign body) s ex s':=by
 intro ro lo m S w a cC ht hh hb hn cd ez b7;simp only [bj] at hv
 split at hv
 case h_2=>cases hv
 rename_i n first cap hx
 split at hv
 case h_1=>cases hv
 rename_i hL
 cases he:fK O.prog O.aK self ((s.ct,.lp s.tm ps.toList as_ b' 0 .none)::s.hp) (s.ct+1) n (first++(.fn (.y s.ct) [] []::cap)) with
 | none=>simp [he] at hv
 | some q=>
  obtain ⟨v,bm,mP⟩:=q;simp only [he] at hv
  split at hv
  case h_2=>cases hv
  rename_i mH pv Cw BD st pe j0
  cases aT:yk st 1 with
  | true=>rw [aT] at hv;cases hv
  | false=>
   rw [aT] at hv;simp only [yr] at hv;refine wpIn_rangeFunc (fun fn _=>?_);obtain ⟨l,mark,w1,e1,e2,e3,e4,e5,e6⟩:=aaQ (ro:=ro) fn ps assign body hh ht cC KN KO hn lL ez b7;have rf:=bQ (hO.hint h) ht f;rw [hx] at rf;simp only [af] at rf;obtain ⟨fi,ca,hf,r2,r3⟩:=rf;have hle:=ic e4 (p:=⟨l,0,0,0⟩);have zp:ej S w w1:=fun b hb=>e3.still b hb
   have fM:an O.ae (dS m s.ct ⟨l,0,0,0⟩) S w1 (first++(.fn (.y s.ct) [] []::cap)) (fi++#[Value.func (.yield l) #[] #[]]++ca).toList:=by
    have:=iS (fb hle (fun _ h=>h) zp _ _ r2) (iS (a:=[.fn (.y s.ct) [] []]) (x:=[Value.func (.yield l) #[] #[]]) (by
     simp only [an]
     exact ⟨_,[],rfl,by simp only [af];exact ⟨_,de,rfl⟩,rfl⟩) (fb hle (fun _ h=>h) zp _ _ r3))
    grind
   have qZ:=hC.heap _ _ _ _ _ _ _ he _ S w1 _ e2 fM;have hP:∃F,O.prog n=some F:=by
    unfold fK at he;rw [hL] at he
    cases hq:O.prog n with
    | none=>simp [hq] at he
    | some F=>exact ⟨F,rfl⟩
   obtain ⟨F,hF⟩:=hP;obtain ⟨fn',q1,q2,q3⟩:=hO.prog n F hF;obtain ⟨cb,q4,_⟩:=L8 q2;have ef:(callFunc (O.ae n) (fi++#[Value.func (.yield l) #[] #[]]++ca)).run O.P w1= .ok (.enter (O.ae n) (fi++#[Value.func (.yield l) #[] #[]]++ca)) w1:=H5 q1 (by rw [q4];rfl) q3
   refine ⟨l,mark,w1,{target:= .fn (.func (O.ae n)) ca,args:=fi++#[Value.func (.yield l) #[] #[]]},w1,O.ae n,fi++#[Value.func (.yield l) #[] #[]]++ca,w1,e1,?_,fun _ _=>trivial,?_,fun hd=>by simp [WF,Fence.wide] at hd,?_⟩
   ·show Sem.run O.P (Deferred.ofValue (a.eval f) _) w1=_
    rw [hf];simp [Deferred.ofValue,Act.eval]
   ·simp only [invoke];exact ef
   ·rcases qZ with ⟨_,qZ⟩ | ⟨u,w',h1,_⟩
    case inr=>rw [ef] at h1;cases h1
    have aeZ:CallsIn (WF ro) 0 O.P (O.ae n) (fi++#[Value.func (.yield l) #[] #[]]++ca) w1 (oC O (dS m s.ct ⟨l,0,0,0⟩) S w1 ((s.ct,.lp s.tm ps.toList as_ b' 0 .none)::s.hp) (s.ct+1) v bm mP):=qZ;refine CallsIn.mono aeZ ?_;rintro e w3 ⟨u,m',S',rfl,k1,k2,k3,k4⟩;have eu:m' s.ct=some ⟨l,0,0,0⟩:=k4.old s.ct _ (Nat.lt_succ_self _) de;obtain ⟨r,KM,d1,d2,d3,d4,d5,d6,_⟩:=A2 k1 j0 eu;have CL:(r.state==LoopState.busy)=false:=by
     rw [d3];rcases st with _ | _ | st
     ·rfl
     ·simp_all
     ·have:st=0:=by omega
      subst this;rfl
    have fm:=sF w3 l (.loop {r with state:= .exhausted});have KP:=N9 k1 s.ct;have jZ:¬da m' (cw bm s.ct) l:=L3 k1 j0 eu
    have z1:aJ O m' S' {w3 with heap:=w3.heap.setIfInBounds l (.loop {r with state:= .exhausted})} (VE.cw bm s.ct) mP:=MB KP fm d2 jZ (by have:=hh.eK;omega)
    have z2:bK m' S' w3 bm m' S' {w3 with heap:=w3.heap.setIfInBounds l (.loop {r with state:= .exhausted})} (VE.cw bm s.ct) s.base:=by
     refine ⟨rfl,rfl,rfl,by rw [fm.size];exact yC _,fun b _ hb=>fm.other b (fun e=>hb (e▸A9 j0 eu)),fun _ h=>h,fun b hb=>fm.other b (fun e=>d2 (e▸hb)),fun b hb=> .inl hb,fun b hb=> .inl (O6 hb),fun _ _ _ h=>h,fun b x hb=>?_⟩
     grind
    have JM:bK m S w s.hp m' S' {w3 with heap:=w3.heap.setIfInBounds l (.loop {r with state:= .exhausted})} (VE.cw bm s.ct) s.base:=
     ((e3.mz hb).trans (k4.mz (by omega))).trans z2
    have Fa:(Instr.endLoop l).run O.P w3= .ok (nv pe) {w3 with heap:=w3.heap.setIfInBounds l (.loop {r with state:= .exhausted})}:=by
     simp only [Instr.endLoop,Sem.run_bind,AB d1,Result.andThen_ok,CL,Bool.false_eq_true,yM,Sem.run_pure,Dv (P:=O.P) d1 (fun _ _ _=>by simp),d5]
    have Tq:Marks lo S' {w3 with heap:=w3.heap.setIfInBounds l (.loop {r with state:= .exhausted})} (mark++a.defers):=qh k1 z2 (qh e2 k4 e5)
    have n8:bM O m' S' {w3 with heap:=w3.heap.setIfInBounds l (.loop {r with state:= .exhausted})} s.tm a.tmps:=by
     refine ow (fun id p hp=>?_) JM.sub (fun b hb=>JM.still b hb) ht;have h1:=hh.lt id p hp;exact k4.old id p (by omega) (hle id p hp)
    have post:∀KQ,s'={s with hp:=VE.cw bm s.ct,ct:=mP}->ex=KQ->dK O m S w s ex s' a.tmps.size lo (lE KQ) {a with defers:=mark++a.defers} {w3 with heap:=w3.heap.setIfInBounds l (.loop {r with state:= .exhausted})}:=by
     rintro KQ rfl rfl;exact ⟨rfl,m',S',n8,z1,rfl,by show s.base<=mP;omega,JM,rfl,Tq⟩
    refine ⟨_,_,Fa,?_⟩
    cases pe with
    | none=>
     simp only [yb,yg] at hv;exact post .normal hv.2.symm hv.1.symm
    | ret=>
     simp only [yb,yg] at hv;exact wpIn_ret (post .ret hv.2.symm hv.1.symm)
    | exit id=>
     simp only [yb,yg] at hv;exact wpIn_exit (post (.exit id) hv.2.symm hv.1.symm)
end
end
section
def Le (f g:b9):Prop:=∀c s r,f c s=some r->g c s=some r
section
variable {P:aF} {L:Lib} {f g:b9}
def GX (h:Le f g) (n:Nat) (ap:List AV) (r:AV) (hr:b5 P L f n ap=some r):b5 P L g n ap=some r:=by
 unfold b5 at hr ⊢
 cases hL:L.pure n with
 | some sp=>simpa only [hL] using hr
 | none=>
  simp only [hL] at hr ⊢
  cases hP:P n with
  | none=>simp [hP] at hr
  | some F=>
   simp only [hP] at hr ⊢
   cases hf:f F.body ⟨eV 0 ap,[],0,0⟩ with
   | none=>simp [hf] at hr
   | some q=>rw [h _ _ _ hf];simpa only [hf] using hr
def G3 (h:Le f g) (hp:Hp) (ct:Nat) (n:Nat) (ap:List AV) (r:AV×Hp×Nat) (hr:fK P L f hp ct n ap=some r):fK P L g hp ct n ap=some r:=by
 unfold fK at hr ⊢
 cases hL:L.heap n with
 | some sp=>simpa only [hL] using hr
 | none=>
  simp only [hL] at hr ⊢
  cases hP:P n with
  | none=>simp [hP] at hr
  | some F=>
   simp only [hP] at hr ⊢
   cases hf:f F.body ⟨eV 0 ap,hp,ct,ct⟩ with
   | none=>simp [hf] at hr
   | some q=>rw [h _ _ _ hf];simpa only [hf] using hr
def LU (h:Le f g) (hp:Hp) (ct:Nat) (l:Nat) (xs:List AV) (r:AV×Hp×Nat) (hr:fV f hp ct l xs=some r):fV g hp ct l xs=some r:=by
 unfold fV at hr ⊢
 cases hl:ak hp l with
 | none=>simp [hl] at hr
 | some o=>
  simp only [hl] at hr ⊢
  split at hr
  ·rename_i tm ps as_ body pe n9;simp only [yb] at n9;subst n9
   (try simp only at hr ⊢)
   cases hb:lm tm ps xs with
   | none=>simp [hb] at hr
   | some tm'=>
    simp only [hb] at hr ⊢
    cases h1:f as_ ⟨tm',hp,ct,ct⟩ with
    | none=>simp [h1] at hr
    | some q=>
     rw [h _ _ _ h1];simp only [h1] at hr ⊢
     split at hr
     ·rename_i s1 JN;simp only [yb] at JN;subst JN
      (try simp only at hr ⊢)
      split at hr
      ·rename_i lJ mG rN qU kO Tt
       (try simp only [Tt])
       cases h2:f body ⟨s1.tm,aY s1.hp l (.lp lJ mG rN qU 1 kO),s1.ct,s1.ct⟩ with
       | none=>simp [h2] at hr
       | some q2=>rw [h _ _ _ h2];simpa only [h2] using hr
      ·simp at hr
     ·simp at hr
  ·simp at hr
def L9 (h:Le f g) (hp:Hp) (ct:Nat) (m:Md) (fv:AV) (xs:List AV) (r:AV×Hp×Nat) (hr:cK P L f hp ct m fv xs=some r):cK P L g hp ct m fv xs=some r:=by
 unfold cK at hr ⊢
 split at hr
 ·rename_i n first cap
  cases m with
  | pure=>
   simp only at hr ⊢
   cases hz:bS deep hp (first++(xs++cap)) with
   | none=>simp [hz] at hr
   | some q=>
    simp only [hz] at hr ⊢
    cases hc:b5 P L f n q.1 with
    | none=>simp [hc] at hr
    | some u=>rw [GX h n q.1 u hc];simpa only [hc] using hr
  | own=>
   simp only at hr ⊢
   cases hz:bS deep hp (first++(xs++cap)) with
   | none=>simp [hz] at hr
   | some q=>
    simp only [hz] at hr ⊢
    cases hc:b5 P L f n q.1 with
    | none=>simp [hc] at hr
    | some u=>rw [GX h n q.1 u hc];simpa only [hc] using hr
  | heap=>exact G3 h _ _ _ _ _ hr
  | dyn=>
   simp only at hr ⊢
   cases hz:az (first++(xs++cap)) with
   | true=>
    simp only [hz,yi] at hr ⊢
    cases hc:b5 P L f n (first++(xs++cap)) with
    | none=>simp [hc] at hr
    | some u=>rw [GX h n _ u hc];simpa only [hc] using hr
   | false=>
    simp only [hz,yr] at hr ⊢;exact G3 h _ _ _ _ _ hr
 ·split at hr
  ·exact LU h _ _ _ _ _ hr
  ·exact LU h _ _ _ _ _ hr
  ·simp at hr
 ·simp at hr
def Nw (h:Le f g) (tm:Env) (hp:Hp) (ct:Nat) (o:Op) (r:AV×Hp×Nat) (hr:aZ P L f tm hp ct o=some r):aZ P L g tm hp ct o=some r:=by
 unfold aZ at hr ⊢
 split at hr
 ·exact L9 h _ _ _ _ _ _ hr
 ·rename_i rs fv xs
  (try simp only at hr ⊢)
  cases hc:cK P L f hp ct .dyn (aq tm fv) (cA tm xs) with
  | none=>simp [hc] at hr
  | some q=>rw [L9 h _ _ _ _ _ _ hc];simpa only [hc] using hr
 all_goals simpa only using hr
def Dw (h:Le f g):∀(ops:List aU) (s s':St),cM P L f ops s=some s'->cM P L g ops s=some s'
 | [],s,s',hr=>by simpa only [cM] using hr
 | ⟨d,gd,o⟩::r,s,s',hr=>by
  simp only [cM] at hr ⊢
  split at hr
  ·rename_i hw
   try simp only [hw]
   cases ho:aZ P L f s.tm s.hp s.ct o with
   | none=>simp [ho] at hr
   | some q=>rw [Nw h _ _ _ _ _ ho];simp only [ho] at hr ⊢;exact Dw h r _ _ hr
  ·rename_i hw
   (try simp only [hw]);exact Dw h r _ _ hr
  ·simp at hr
def kY (h:Le f g):∀(c:VC) (s:St) (r:Ex×St),bj P L f c s=some r->bj P L g c s=some r
 | .skip,s,r,hr=>by simpa only [bj] using hr
 | .aG ops,s,r,hr=>by
  simp only [bj] at hr ⊢
  cases ho:cM P L f ops s with
  | none=>simp [ho] at hr
  | some s'=>rw [Dw h _ _ _ ho];simpa only [ho] using hr
 | .seq a b,s,r,hr=>by
  simp only [bj] at hr ⊢
  cases ha:bj P L f a s with
  | none=>simp [ha] at hr
  | some q=>
   rw [kY h a s q ha];obtain ⟨ex,s1⟩:=q
   cases ex with
   | normal=>simp only [ha] at hr ⊢;exact kY h b s1 r hr
   | ret=>simpa only [ha] using hr
   | exit id=>simpa only [ha] using hr
 | .cond x a b,s,r,hr=>by
  simp only [bj] at hr ⊢
  split at hr
  ·rename_i t ht
   try simp only [ht]
   cases t with
   | true=>simp only [yi] at hr ⊢;exact kY h a s r hr
   | false=>simp only [yr] at hr ⊢;exact kY h b s r hr
  ·simp at hr
 | .aC id a,s,r,hr=>by
  simp only [bj] at hr ⊢
  cases ha:bj P L f a s with
  | none=>simp [ha] at hr
  | some q=>rw [kY h a s q ha];simpa only [ha] using hr
 | .kp live,s,r,hr=>by simpa only [bj] using hr
 | .fz ts,s,r,hr=>by simpa only [bj] using hr
 | .loop live a,s,r,hr=>by
  simp only [bj] at hr ⊢
  cases ha:bj P L f a (bA live s) with
  | none=>simp [ha] at hr
  | some q=>
   rw [kY h a _ q ha];obtain ⟨ex,s1⟩:=q
   cases ex with
   | normal=>simp only [ha] at hr ⊢;exact h _ _ _ hr
   | ret=>simpa only [ha] using hr
   | exit id=>simpa only [ha] using hr
 | .rf fv ps as_ body,s,r,hr=>by
  simp only [bj] at hr ⊢
  split at hr
  ·rename_i n first cap hx
   try simp only [hx]
   split at hr
   ·simp at hr
   ·rename_i hL
    try simp only [hL]
    cases hc:fK P L f ((s.ct,.lp s.tm ps as_ body 0 .none)::s.hp) (s.ct+1) n (first++(.fn (.y s.ct) [] []::cap)) with
    | none=>simp [hc] at hr
    | some q=>rw [G3 h _ _ _ _ _ hc];simpa only [hc] using hr
  ·simp at hr
 | .exit id,s,r,hr=>by simpa only [bj] using hr
 | .ret,s,r,hr=>by simpa only [bj] using hr
end
def Ee (P:aF) (L:Lib) (c:VC) (s:St):ev P L 0 c s=none:=rfl
def A3 (P:aF) (L:Lib) (n:Nat):ev P L (n+1)=bj P L (ev P L n):=rfl
def RI (P:aF) (L:Lib):∀n,Le (ev P L n) (ev P L (n+1))
 | 0=>fun c s r h=>by rw [Ee] at h;cases h
 | n+1=>fun c s r h=>by
  rw [A3] at h ⊢;exact kY (RI P L n) c s r h
def IB (P:aF) (L:Lib) {n m:Nat} (h:n<=m):Le (ev P L n) (ev P L m):=by
 induction h with
 | refl=>exact fun _ _ _ h=>h
 | step _ ih=>exact fun c s r hr=>RI P L _ c s r (ih c s r hr)
end
section
open Go
section
variable {O:a8} {self:b9}
def dK.none {m:Mp} {S:Nat->Prop} {w:yf} {s s':St} {ex:Ex} {n lo:Nat} {a:Act} {w':yf} (l:Nat):¬dK O m S w s ex s' n lo (.goto l) a w':=by
 rintro ⟨h,_⟩;cases ex<;>cases h
def dK.then {m m1:Mp} {S S1:Nat->Prop} {w w1:yf} {s s1 s2:St} {ex:Ex} {n lo:Nat} {a':Act} {w':yf} {e:vQ} {ex1:Ex} (h1:s1.base=s.base)
  (hf:bK m S w s.hp m1 S1 w1 s1.hp s.base) (h:dK O m1 S1 w1 s1 ex s2 n lo e a' w'):dK O m S w s ex s2 n lo e a' w':=by
 obtain ⟨h2,m',S',k1,k2,k3,k4,k5,k6,k7⟩:=h;rw [h1] at k3 k4 k5;exact ⟨h2,m',S',k1,k2,k3,k4,hf.trans k5,k6,k7⟩
def dK.cN {m:Mp} {S:Nat->Prop} {w:yf} {s s1:St} {n lo:Nat} {a':Act} {w':yf} {e:vQ} {ex:Ex} (live:List Nat) (h:dK O m S w s ex s1 n lo e a' w'):dK O m S w s ex (bA live s1) n lo e a' w':=by
 obtain ⟨h2,m',S',k1,k2,k3,k4,k5,k6,k7⟩:=h;obtain ⟨m2,g1,g2,g3,g4,g5⟩:=Hc (live:=live) k1 k2 (by rw [k3];exact k4)
 rw [k3] at g3 g4 g5;exact ⟨h2,m2,S',g1,g2,g3,g4,k5.trans g5,k6,qh k2 g5 k7⟩
def RJ {m:Mp} {w:yf} {tmps:Array yd}:∀{ts:List Nat} {s s1:St} {S:Nat->Prop},bM O m S w s.tm tmps->aJ O m S w s.hp s.ct->kC ts s=some s1->
  ∃S1,bM O m S1 w s1.tm tmps/\aJ O m S1 w s1.hp s1.ct/\s1.base=s.base/\s1.ct=s.ct/\∀base,bK m S w s.hp m S1 w s1.hp base
 | [],s,s1,S,ht,hh,h=>by
  simp only [kC,yb] at h;subst h;exact ⟨S,ht,hh,rfl,rfl,fun _=>bK.refl⟩
 | t::r,s,s1,S,ht,hh,h=>by
  simp only [kC] at h
  cases hz:freeze deep s.hp (ah s.tm t) with
  | none=>simp [hz] at h
  | some q=>
   obtain ⟨v,hp⟩:=q;simp only [hz] at h;obtain ⟨h1,h2,h3⟩:=Ht (O:=O) hz;have hg:fy s.hp s.ct hp s.ct:=⟨h1,yC _,fun id o ho=>(by
     have:=h2 id
     rw [ho] at this
     cases hq:ak s.hp id with
     | none=>rw [hq] at this;simp at this
     | some o'=>exact hh.aV id o' hq),fun id o ho _=>(by
     have:=h2 id
     rw [ho] at this
     cases hq:ak s.hp id with
     | none=>rw [hq] at this;simp at this
     | some o'=>exact ⟨o',rfl⟩)⟩
   obtain ⟨S',k1,k2,k3,k4⟩:=DV hh hg;have n8:bM O m S' w ((t,v)::s.tm) tmps:=by
    intro i;simp only [ah]
    cases hb:yk t i with
    | true=>
     have:=yh hb
     subst this;exact (h3 hp m S' w s.ct cr.refl k1).1 _ (iU (fun _ _ h=>h) k2 (fun _ _=>rfl) _ _ (ht t))
    | false=>
     exact iU (fun _ _ h=>h) k2 (fun _ _=>rfl) _ _ (ht i)
   obtain ⟨S1,g1,g2,g3,g4,g5⟩:=RJ (s:={s with tm:=(t,v)::s.tm,hp:=hp}) n8 k1 h;exact ⟨S1,g1,g2,g3,g4,fun base=>(k4 base).trans (g5 base)⟩
def acS (hO:ek O) (n:Nat) (hC:∀k,k<=n->jI O (ev O.prog O.aK k)) (h:Nat):∀(c:vw) (l k:Nat) (j:Nat),j<=n->∀(s:St) (ex:Ex) (s':St),
  bj O.prog O.aK (ev O.prog O.aK j) (comp O.P (O.hint h) c l k).1 s=some (ex,s')->qY O h c s ex s':=by
 have refl:∀{s:St} {ex:Ex} {m:Mp} {S:Nat->Prop} {w:yf} {a:Act} {lo:Nat},bM O m S w s.tm a.tmps->aJ O m S w s.hp s.ct->s.base<=s.ct->Marks lo S w a.defers->dK O m S w s ex s a.tmps.size lo (lE ex) a w:=
  fun h1 h2 h3 h4=>⟨rfl,_,_,h1,h2,rfl,h3,bK.refl,rfl,h4⟩
 have JO:∀{self:b9} {s:St} {r:Ex×St},bj O.prog O.aK self (.aG [⟨none,none,bad⟩]) s=some r->False:=by
  intro self s r hv;simp [bj,cM,bad,aZ,cK,aq] at hv
 intro c
 induction c with
 | skip=>
  intro l k j hj s ex s' hv ro lo m S w a cC ht hh hb hn cd ez b7;simp only [comp,bj,yb,yg] at hv;obtain ⟨rfl,rfl⟩:=hv;exact wpIn_skip (refl ht hh hb b7)
 | label x=>
  intro l k j hj s ex s' hv ro lo m S w a cC ht hh hb hn cd ez b7;simp only [comp,bj,yb,yg] at hv;obtain ⟨rfl,rfl⟩:=hv;exact wpIn_label (refl ht hh hb b7)
 | exit id=>
  intro l k j hj s ex s' hv ro lo m S w a cC ht hh hb hn cd ez b7;simp only [comp,bj,yb,yg] at hv;obtain ⟨rfl,rfl⟩:=hv
  exact wpIn_exit (refl (ex:= .exit id) ht hh hb b7)
 | ret=>
  intro l k j hj s ex s' hv ro lo m S w a cC ht hh hb hn cd ez b7;simp only [comp,bj,yb,yg] at hv;obtain ⟨rfl,rfl⟩:=hv
  exact wpIn_ret (refl (ex:= .ret) ht hh hb b7)
 | goto x=>intro l k j hj s ex s' hv;exact (JO (by simpa only [comp] using hv)).elim
 | refuse x=>intro l k j hj s ex s' hv;exact (JO (by simpa only [comp] using hv)).elim
 | region id ops d=>
  intro l k j hj s ex s' hv;simp only [comp] at hv;generalize hq:D6 O.P (O.hint h) ops d k=q at hv;obtain ⟨r,k'⟩:=q;have main:∀{s s':St} {ex:Ex},bj O.prog O.aK (ev O.prog O.aK j) (.aG r) s=some (ex,s')->qY O h (.region id ops d) s ex s':=by
   intro s s' ex hv;simp only [bj] at hv
   cases ho:cM O.prog O.aK (ev O.prog O.aK j) r s with
   | none=>simp [ho] at hv
   | some s1=>
    simp only [ho,yb,yg] at hv;obtain ⟨rfl,rfl⟩:=hv;exact aeY hO (hC j hj) h id ops d k (by rw [hq];exact ho)
  simp only at hv
  split at hv
  ·exact main hv
  ·rename_i t ts _;simp only [bj] at hv
   cases hf:kC (t::ts) s with
   | none=>simp [hf] at hv
   | some s1=>
    simp only [hf] at hv;intro ro lo m S w a cC ht hh hb hn cd ez b7;obtain ⟨S1,g1,g2,g3,g4,g5⟩:=RJ ht hh hf;have h1:=main (s:=s1) (by simpa only [bj] using hv) ro lo m S1 w a cC g1 g2 (by rw [g3,g4];exact hb) hn cd ez (qh hh (g5 s.base) b7)
    refine wpIn_mono h1 (fun e a' w' hp=>?_)
    exact dK.then (ex1:= .normal) g3 (g5 s.base) hp
 | seq x y ihx ihy=>
  intro l k j hj s ex s' hv ro lo m S w a cC ht hh hb hn cd ez b7;simp only [comp] at hv;generalize mQ:comp O.P (O.hint h) x l k=qx at hv;obtain ⟨x',l1,k1⟩:=qx;simp only at hv;generalize CM:comp O.P (O.hint h) y l1 k1=qy at hv;obtain ⟨y',l2,k2⟩:=qy;simp only [bj] at hv
  cases hx:bj O.prog O.aK (ev O.prog O.aK j) x' s with
  | none=>simp [hx] at hv
  | some r=>
   obtain ⟨ex1,s1⟩:=r;have h1:=ihx l k j hj s ex1 s1 (by rw [mQ];exact hx) ro lo m S w a cC ht hh hb hn cd ez b7
   refine wpIn_seq (wpIn_mono h1 ?_);rintro e a1 w1 ⟨rfl,m1,S1,g1,g2,g3,g4,g5,g6,g7⟩;have stop:ex1≠.normal->ex=ex1/\s'=s1:=by
    intro e9;rw [hx] at hv
    cases ex1 with
    | normal=>exact absurd rfl e9
    | ret=>simp only [yb,yg] at hv;exact ⟨hv.1.symm,hv.2.symm⟩
    | exit id=>simp only [yb,yg] at hv;exact ⟨hv.1.symm,hv.2.symm⟩
   cases ex1 with
   | normal=>
    simp only [hx] at hv;simp only [lE,Exit.then];have h2:=ihy l1 k1 j hj s1 ex s' (by rw [CM];exact hv) ro lo m1 S1 w1 a1 (HA g5 cC) g1 g2 (by rw [g3];exact g4) (by rw [g6];exact hn) cd (xz ez g5.size) g7
    rw [g6] at h2
    exact wpIn_mono h2 (fun e a' w' hp=>dK.then (ex1:= .normal) g3 g5 hp)
   | ret=>
    obtain ⟨rfl,rfl⟩:=stop (by simp);exact ⟨rfl,m1,S1,g1,g2,g3,g4,g5,g6,g7⟩
   | exit id=>
    obtain ⟨rfl,rfl⟩:=stop (by simp);exact ⟨rfl,m1,S1,g1,g2,g3,g4,g5,g6,g7⟩
 | cond x p q ihp ihq=>
  intro l k j hj s ex s' hv ro lo m S w a cC ht hh hb hn cd ez b7;simp only [comp] at hv;generalize mQ:comp O.P (O.hint h) p (l+1) k=qx at hv;obtain ⟨p',l1,k1⟩:=qx;simp only at hv;generalize CM:comp O.P (O.hint h) q l1 k1=qy at hv;obtain ⟨q',l2,k2⟩:=qy;simp only at hv;have main:∀(ex:Ex) (s':St),bj O.prog O.aK (ev O.prog O.aK j) (.cond (aH (O.hint h) x) p' q') s=some (ex,s')->(Code.cond x p q).wpIn (WF ro) 0 O.P (dK O m S w s ex s' a.tmps.size lo) a w:=by
   intro ex s' hv;simp only [bj] at hv;have rx:=bQ (hO.hint h) ht x
   split at hv
   ·rename_i t hx;rw [hx] at rx;simp only [af] at rx
    cases t with
    | true=>
     simp only [yi] at hv;exact wpIn_cond_true rx (ihp (l+1) k j hj s ex s' (by rw [mQ];exact hv) ro lo m S w a cC ht hh hb hn cd ez b7)
    | false=>
     simp only [yr] at hv;exact wpIn_cond_false rx (ihq l1 k1 j hj s ex s' (by rw [CM];exact hv) ro lo m S w a cC ht hh hb hn cd ez b7)
   ·cases hv
  cases zq:(O.hint h).out l with
  | none=>rw [zq] at hv;exact main ex s' hv
  | some live=>
   rw [zq] at hv;simp only at hv;rw [show bj O.prog O.aK (ev O.prog O.aK j) (.seq (.cond (aH (O.hint h) x) p' q') (.kp live)) s=match bj O.prog O.aK (ev O.prog O.aK j) (.cond (aH (O.hint h) x) p' q') s with | some (.normal,s1)=>some (.normal,bA live s1) | r=>r from rfl] at hv
   cases hx:bj O.prog O.aK (ev O.prog O.aK j) (.cond (aH (O.hint h) x) p' q') s with
   | none=>simp [hx] at hv
   | some r=>
    obtain ⟨ex1,s1⟩:=r;have h1:=main ex1 s1 hx;rw [hx] at hv
    cases ex1 with
    | normal=>
     simp only [yb,yg] at hv;obtain ⟨rfl,rfl⟩:=hv;exact wpIn_mono h1 (fun e a' w' hp=>dK.cN live hp)
    | ret=>simp only [yb,yg] at hv;obtain ⟨rfl,rfl⟩:=hv;exact h1
    | exit id=>simp only [yb,yg] at hv;obtain ⟨rfl,rfl⟩:=hv;exact h1
 | block id x ih=>
  intro l k j hj s ex s' hv ro lo m S w a cC ht hh hb hn cd ez b7;simp only [comp] at hv;generalize mQ:comp O.P (O.hint h) x l k=qx at hv;obtain ⟨x',r⟩:=qx;simp only at hv;have main:∀(ex:Ex) (s':St),bj O.prog O.aK (ev O.prog O.aK j) (.aC id x') s=some (ex,s')->(Code.block id x).wpIn (WF ro) 0 O.P (dK O m S w s ex s' a.tmps.size lo) a w:=by
   intro ex s' hv;simp only [bj] at hv
   cases hx:bj O.prog O.aK (ev O.prog O.aK j) x' s with
   | none=>simp [hx] at hv
   | some q=>
    obtain ⟨ex1,s1⟩:=q;have h1:=ih l k j hj s ex1 s1 (by rw [mQ];exact hx) ro lo m S w a cC ht hh hb hn cd ez b7
    refine wpIn_block (wpIn_mono h1 ?_);rintro e a1 w1 ⟨rfl,g⟩
    cases ex1 with
    | normal=>
     simp only [hx,yb,yg] at hv;obtain ⟨rfl,rfl⟩:=hv;exact ⟨rfl,g⟩
    | ret=>
     simp only [hx,yb,yg] at hv;obtain ⟨rfl,rfl⟩:=hv;exact ⟨rfl,g⟩
    | exit i=>
     simp only [hx] at hv
     cases FY:yk i id with
     | true=>
      rw [FY] at hv;simp only [yi,yb,yg] at hv;obtain ⟨rfl,rfl⟩:=hv
      have:=yh FY
      subst this;simp only [lE,Exit.inBlock,yR];exact ⟨rfl,g⟩
     | false=>
      rw [FY] at hv;simp only [yr,yb,yg] at hv;obtain ⟨rfl,rfl⟩:=hv;have e9:i≠id:=fun e=>by subst e;simp at FY
      simp only [lE,Exit.inBlock,e9,yM];exact ⟨rfl,g⟩
  have aht:∀live:List Nat,bj O.prog O.aK (ev O.prog O.aK j) (.seq (.aC id x') (.kp live)) s=some (ex,s')->(Code.block id x).wpIn (WF ro) 0 O.P (dK O m S w s ex s' a.tmps.size lo) a w:=by
   intro live hv;rw [show bj O.prog O.aK (ev O.prog O.aK j) (.seq (.aC id x') (.kp live)) s=match bj O.prog O.aK (ev O.prog O.aK j) (.aC id x') s with | some (.normal,s1)=>some (.normal,bA live s1) | r=>r from rfl] at hv
   cases hx:bj O.prog O.aK (ev O.prog O.aK j) (.aC id x') s with
   | none=>simp [hx] at hv
   | some r=>
    obtain ⟨ex1,s1⟩:=r;have h1:=main ex1 s1 hx;rw [hx] at hv
    cases ex1 with
    | normal=>
     simp only [yb,yg] at hv;obtain ⟨rfl,rfl⟩:=hv;exact wpIn_mono h1 (fun e a' w' hp=>dK.cN live hp)
    | ret=>simp only [yb,yg] at hv;obtain ⟨rfl,rfl⟩:=hv;exact h1
    | exit id=>simp only [yb,yg] at hv;obtain ⟨rfl,rfl⟩:=hv;exact h1
  split at hv
  ·exact aht _ hv
  ·exact main ex s' hv
 | loop x ih=>
  intro l k j hj s ex s' hv;simp only [comp] at hv;generalize mQ:comp O.P (O.hint h) x (l+1) k=qx at hv;obtain ⟨x',r⟩:=qx;simp only at hv;have rounds:∀(j:Nat),j<=n->∀(s:St) (ex:Ex) (s':St),bj O.prog O.aK (ev O.prog O.aK j) (.loop ((O.hint h).live l) x') s=some (ex,s')->∃K,∀(ro:Option Nat) (lo:Nat) (m:Mp) (S:Nat->Prop) (w:yf) (a:Act),oL ro w->bM O m S w s.tm a.tmps->aJ O m S w s.hp s.ct->s.base<=s.ct->(O.hint h).n<=a.tmps.size->O.w0.heap.size<=lo->lo<=w.heap.size->Marks lo S w a.defers->
    Code.roundsIn (WF ro) 0 O.P x (dK O m S w s ex s' a.tmps.size lo) K a w:=by
   intro j
   induction j with
   | zero=>
    intro hj s ex s' hv;simp only [bj] at hv
    cases hx:bj O.prog O.aK (ev O.prog O.aK 0) x' (bA ((O.hint h).live l) s) with
    | none=>simp [hx] at hv
    | some q=>
     obtain ⟨ex1,s1⟩:=q;have stop:ex1≠.normal->ex=ex1/\s'=s1:=by
      intro e9;rw [hx] at hv
      cases ex1 with
      | normal=>exact absurd rfl e9
      | ret=>simp only [yb,yg] at hv;exact ⟨hv.1.symm,hv.2.symm⟩
      | exit id=>simp only [yb,yg] at hv;exact ⟨hv.1.symm,hv.2.symm⟩
     refine ⟨1,fun ro lo m S w a cC ht hh hb hn cd ez b7=>?_⟩;rw [roundsIn_succ];obtain ⟨m1,c1,c2,c3,c4,c5⟩:=Hc (live:=(O.hint h).live l) ht hh hb;have h1:=ih (l+1) k 0 hj _ ex1 s1 (by rw [mQ];exact hx) ro lo m1 S w a cC c1 c2 (by rw [c3];exact c4) hn cd ez b7
     refine wpIn_mono h1 ?_;rintro e a1 w1 hp;have ai:=dK.then (O:=O) (m:=m) (S:=S) (w:=w) (s:=s) (ex1:= .normal) c3 c5 hp;obtain ⟨rfl,_⟩:=hp
     cases ex1 with
     | normal=>simp only [hx,Ee] at hv;cases hv
     | ret=>obtain ⟨rfl,rfl⟩:=stop (by simp);exact ai
     | exit id=>obtain ⟨rfl,rfl⟩:=stop (by simp);exact ai
   | succ j ihj=>
    intro hj s ex s' hv;simp only [bj] at hv
    cases hx:bj O.prog O.aK (ev O.prog O.aK (j+1)) x' (bA ((O.hint h).live l) s) with
    | none=>simp [hx] at hv
    | some q=>
     obtain ⟨ex1,s1⟩:=q;have stop:ex1≠.normal->ex=ex1/\s'=s1:=by
      intro e9;rw [hx] at hv
      cases ex1 with
      | normal=>exact absurd rfl e9
      | ret=>simp only [yb,yg] at hv;exact ⟨hv.1.symm,hv.2.symm⟩
      | exit id=>simp only [yb,yg] at hv;exact ⟨hv.1.symm,hv.2.symm⟩
     have more:∃K,ex1= .normal->∀(ro:Option Nat) (lo:Nat) (m:Mp) (S:Nat->Prop) (w:yf) (a:Act),oL ro w->bM O m S w s1.tm a.tmps->aJ O m S w s1.hp s1.ct->s1.base<=s1.ct->(O.hint h).n<=a.tmps.size->O.w0.heap.size<=lo->lo<=w.heap.size->Marks lo S w a.defers->
       Code.roundsIn (WF ro) 0 O.P x (dK O m S w s1 ex s' a.tmps.size lo) K a w:=by
      cases ex1 with
      | normal=>
       rw [hx] at hv;have jC:ev O.prog O.aK (j+1) (.loop ((O.hint h).live l) x') s1=some (ex,s'):=hv;rw [A3] at jC;obtain ⟨K,hK⟩:=ihj (by omega) s1 ex s' jC;exact ⟨K,fun _=>hK⟩
      | ret=>exact ⟨0,fun h=>by cases h⟩
      | exit id=>exact ⟨0,fun h=>by cases h⟩
     obtain ⟨K,hK⟩:=more;refine ⟨K+1,fun ro lo m S w a cC ht hh hb hn cd ez b7=>?_⟩;rw [roundsIn_succ];obtain ⟨m1,c1,c2,c3,c4,c5⟩:=Hc (live:=(O.hint h).live l) ht hh hb;have h1:=ih (l+1) k (j+1) hj _ ex1 s1 (by rw [mQ];exact hx) ro lo m1 S w a cC c1 c2 (by rw [c3];exact c4) hn cd ez b7
     refine wpIn_mono h1 ?_;rintro e a1 w1 hp;have ai:=dK.then (O:=O) (m:=m) (S:=S) (w:=w) (s:=s) (ex1:= .normal) c3 c5 hp;obtain ⟨rfl,_⟩:=hp
     cases ex1 with
     | normal=>
      simp only [lE,Exit.then];obtain ⟨_,m2,S2,g1,g2,g3,g4,g5,g6,g7⟩:=ai;have h2:=hK rfl ro lo m2 S2 w1 a1 (HA g5 cC) g1 g2 (by rw [g3];exact g4) (by rw [g6];exact hn) cd (xz ez g5.size) g7
      rw [g6] at h2;revert h2;generalize hA:a.tmps.size=sz;intro h2;have step:∀(K:Nat) (a':Act) (w':yf),Code.roundsIn (WF ro) 0 O.P x (dK O m2 S2 w1 s1 ex s' sz lo) K a' w'->Code.roundsIn (WF ro) 0 O.P x (dK O m S w s ex s' sz lo) K a' w':=by
       intro K
       induction K with
       | zero=>intro a' w' pN;exact pN
       | succ K ihK=>
        intro a' w' pN;rw [roundsIn_succ] at pN ⊢;refine wpIn_mono pN (fun e a'' rO hq=>?_)
        cases e with
        | normal=>exact ihK a'' rO hq
        | exit id=>exact dK.then (ex1:= .normal) g3 g5 hq
        | goto x=>exact dK.then (ex1:= .normal) g3 g5 hq
        | ret=>exact dK.then (ex1:= .normal) g3 g5 hq
        | panic x=>exact dK.then (ex1:= .normal) g3 g5 hq
        | outgrown=>exact dK.then (ex1:= .normal) g3 g5 hq
      exact step K a1 w1 h2
     | ret=>obtain ⟨rfl,rfl⟩:=stop (by simp);exact ai
     | exit id=>obtain ⟨rfl,rfl⟩:=stop (by simp);exact ai
  obtain ⟨K,hK⟩:=rounds j hj s ex s' hv;intro ro lo m S w a cC ht hh hb hn cd ez b7;exact wpIn_loop_rounds K (hK ro lo m S w a cC ht hh hb hn cd ez b7)
 | scope x ih=>
  intro l k j hj s ex s' hv ro lo m S w a cC ht hh hb hn cd ez b7;simp only [comp] at hv;exact X6 (ih l k j hj s ex s' hv ro lo m S w a cC ht hh hb hn cd ez b7) (fun l a w=>dK.none l)
 | rangeFunc f ps as_ body iha ihb=>
  intro l k j hj s ex s' hv;simp only [comp] at hv;generalize mQ:comp O.P (O.hint h) as_ l k=qx at hv;obtain ⟨x',l1,k1⟩:=qx;simp only at hv;generalize CM:comp O.P (O.hint h) body l1 k1=qy at hv;obtain ⟨y',l2,k2⟩:=qy;simp only at hv
  cases ha:nE (O.hint h).n ps.toList with
  | false=>rw [ha] at hv;exact (JO hv).elim
  | true=>
   rw [ha] at hv;exact ahs hO (hC j hj) ⟨l,k,by rw [mQ]⟩ ⟨l1,k1,by rw [CM]⟩ ha hv
end
end
section
open Go
section
variable {O:a8} {m:Mp} {S:Nat->Prop} {w:yf}
def Nx:∀(ap:List AV) (j i:Nat),ah (eV j ap) (j+i)=ap.getD i .undef
 | [],j,i=>by simp [eV,ah]
 | v::r,j,i=>by
  cases i with
  | zero=>simp [eV,ah]
  | succ i=>
   simp only [eV,ah];have hb:yk j (j+(i+1))=false:=by
    cases hq:yk j (j+(i+1)) with
    | false=>rfl
    | true=>have:=yh hq;omega
   rw [hb,show j+(i+1)=j+1+i by omega];rw [Nx r (j+1) i]
   simp
def Y5 {ap:List AV} {args:Array yd} (n:Nat) (h:an O.ae m S w ap args.toList):bM O m S w (eV 0 ap) (args++wG n undef):=by
 intro i
 have:=Nx ap 0 i
 rw [yp] at this;rw [this,List.getD_eq_getElem?_getD]
 cases hv:ap[i]? with
 | none=>simp only [Option.getD_none,af]
 | some v=>
  obtain ⟨u,h1,h2⟩:=HT h hv;have hl:i<args.size:=by
   grind
  have:(args++wG n undef).getD i undef=u:=by
   rw [wh,Array.getElem?_append_left hl]
   grind
  grind
def zt (tmps:Array yd):yaO->Sem yd
 | .tmp t=>pure (tmps.getD t undef)
 | .cell a t=>do loadVar t (<-asAddr (tmps.getD a undef))
def X7 (fn:uF) (tmps:Array yd):results fn tmps=(do let vs <-fn.results.mapM (zt tmps);pure (if h:vs.size=1 then vs[0] else .tuple vs)):=by
 rfl
def He {s:St} {ct:Nat} {tmps:Array yd} (hh:aJ O m S w s.hp ct) (ht:bM O m S w s.tm tmps):∀{rs:List yaO} {rv:List RV} {vs:List AV},kq O.P rs=some rv->iE s rv=some vs->
  ∃us,(rs.mapM (zt tmps)).run O.P w= .ok us w/\an O.ae m S w vs us
 | [],rv,vs,h1,h2=>by
  simp only [kq,yb] at h1;subst h1;simp only [iE,yb] at h2;subst h2;exact ⟨[],by simp,by simp [an]⟩
 | .tmp t::rs,rv,vs,h1,h2=>by
  simp only [kq] at h1
  cases hc:kq O.P rs with
  | none=>simp [hc] at h1
  | some l=>
   simp only [hc,yb] at h1;subst h1;simp only [iE,results1] at h2
   cases hl:iE s l with
   | none=>simp [hl] at h2
   | some Kk=>
    simp only [hl,yb] at h2;subst h2;obtain ⟨us,g1,g2⟩:=He hh ht hc hl;refine ⟨tmps.getD t undef::us,?_,by simp only [an];exact ⟨_,_,rfl,ht t,g2⟩⟩
    rw [wS];simp only [zt,Sem.run_bind,Sem.run_pure,Result.andThen_ok];rw [g1];rfl
 | .cell a t::rs,rv,vs,h1,h2=>by
  simp only [kq] at h1
  cases hz:bU O.P t with
  | none=>simp [hz] at h1
  | some sz=>
   cases CN:cS O.P t with
   | none=>simp [hz,CN] at h1
   | some ag=>
    cases hc:kq O.P rs with
    | none=>simp [hz,CN,hc] at h1
    | some l=>
     simp only [hz,CN,hc,yb] at h1;subst h1;simp only [iE] at h2
     cases cz:results1 s (.cell a sz ag) with
     | none=>simp [cz] at h2
     | some v=>
      cases hl:iE s l with
      | none=>simp [cz,hl] at h2
      | some Kk=>
       simp only [cz,hl,yb] at h2;subst h2;obtain ⟨us,g1,g2⟩:=He hh ht hc hl;have ra:=ht a;have key:∃b o u,tmps.getD a undef= .pointer (some ⟨b,o,none⟩)/\(loadVar t ⟨b,o,none⟩).run O.P w= .ok u w/\af O.ae m S w v u:=by
        simp only [results1] at cz;cases hta:ah s.tm a<;>rw [hta] at cz ra<;>simp only [reduceCtorEq] at cz
        ·rename_i id o;simp only [af] at ra;obtain ⟨p,hm,hp⟩:=ra
         cases hg:ak s.hp id with
         | none=>simp [hg] at cz
         | some ob=>
          cases ob<;>simp only [hg,reduceCtorEq] at cz
          have KR:=HS (o:=0) (n:=0) hh hg hm;obtain ⟨u,q1,q2⟩:=D8 hz CN (lY o _ p.b p.o KR) cz;exact ⟨p.b,p.o+o,u,hp,q1,q2⟩
        ·rename_i cs;simp only [af] at ra;obtain ⟨b,o,hp,_,_,KR⟩:=ra;obtain ⟨u,q1,q2⟩:=D8 hz CN KR cz;exact ⟨b,o,u,hp,q1,q2⟩
       obtain ⟨b,o,u,q1,q2,q3⟩:=key;refine ⟨u::us,?_,by simp only [an];exact ⟨_,_,rfl,q3,g2⟩⟩
       rw [wS]
       have:(zt tmps (.cell a t)).run O.P w= .ok u w:=by
        simp only [zt];rw [q1];simp [asAddr,q2]
       rw [Sem.run_bind,this,Result.andThen_ok,Sem.run_bind,g1];rfl
def Xt {s:St} {ct:Nat} {tmps:Array yd} {fn:uF} {rv:List RV} {v:AV} (hh:aJ O m S w s.hp ct) (ht:bM O m S w s.tm tmps) (h1:kq O.P fn.results.toList=some rv) (h2:fT s rv=some v):
  ∃u,(results fn tmps).run O.P w= .ok u w/\af O.ae m S w v u:=by
 unfold fT at h2
 cases hl:iE s rv with
 | none=>simp [hl] at h2
 | some vs=>
  obtain ⟨us,g1,g2⟩:=He hh ht h1 hl;have hlen:=fU _ _ g2;have hm:(fn.results.mapM (zt tmps)).run O.P w= .ok us.toArray w:=by
   rw [Array.mapM_eq_mapM_toList];simp [g1]
  have eM:(results fn tmps).run O.P w= .ok (if h:us.toArray.size=1 then us.toArray[0] else .tuple us.toArray) w:=by
   rw [X7,Sem.run_bind,hm];rfl
  rw [hl] at h2
  split at h2
  ·rename_i v' n9;simp only [yb] at n9 h2;subst n9;simp only [an] at g2
   grind
  ·rename_i cZ e9 n9;simp only [yb] at n9 h2;subst n9;subst h2;have h1:¬us.toArray.size=1:=by
    intro h
    have:vs.length=1:=by simp_all
    cases vs with
    | nil=>simp at this
    | cons x t=>
     cases t with
     | nil=>exact e9 x rfl
     | cons y t=>simp at this
   simp only [af]
   grind
  ·grind
def Ny {s:St} {tmps:Array yd} {fn:uF} {rv:List RV} {v:AV} {m0:Mp} {S0:Nat->Prop} {w0:yf} {hp0:Hp} {FZ:Nat} (h1:kq O.P fn.results.toList=some rv) (h2:fT s rv=some v) (eN:FZ<=s.ct):∀(rs:List Nat) (w:yf),
  rs.Nodup->(∀r,r∈rs->w.heap[r]? =some (.deferred (some []))/\¬S r/\w0.heap.size<=r)->O.w0.heap.size<=w0.heap.size->aJ O m S w s.hp s.ct->bM O m S w s.tm tmps->bK m0 S0 w0 hp0 m S w s.hp FZ->
  yaR Fence.wide 0 O.P fn tmps (oC O m0 S0 w0 hp0 FZ v s.hp s.ct) (rs.map (fun r=>{target:= .collected r,args:=#[]})) .returning w
 | [],w,_,_,_,hh,ht,hf=>by
  obtain ⟨u,g1,g2⟩:=Xt hh ht h1 h2;exact ⟨u,g1,u,m,S,rfl,hh,eN,g2,hf⟩
 | r::rs,w,iN,hr,cd,hh,ht,hf=>by
  obtain ⟨fq,eI⟩:=List.nodup_cons.1 iN;obtain ⟨a1,a2,a3⟩:=hr r List.mem_cons_self;have fm:=sF w r (.deferred none);have jZ:¬da m s.hp r:=fun ho=>Od hh ho _ a1
  have pN:=MB hh fm a2 jZ (xz cd a3)
  have aT:ej S w {w with heap:=w.heap.setIfInBounds r (.deferred none)}:=fun b hb=>fm.other b (fun e=>a2 (e▸hb))
  have pG:bK m0 S0 w0 hp0 m S {w with heap:=w.heap.setIfInBounds r (.deferred none)} s.hp FZ:=by
   refine ⟨hf.os,hf.tape,hf.output,by rw [fm.size];exact hf.size,fun b hb ho=>(fm.other b (by omega)).trans (hf.same b hb ho),hf.sub,fun b hb=>(fm.other b (fun e=>a2 (e▸hf.sub b hb))).trans (hf.still b hb),hf.new,hf.own,hf.old,fun b x hb=>?_⟩
   obtain ⟨x',hx⟩:=hf.loops b x hb;exact ⟨x',(fm.other b (fun e=>by subst e;rw [a1] at hx;cases hx)).trans hx⟩
  refine ⟨by simp,.inl ⟨r,_,rfl,?_,Ny h1 h2 eN rs _ eI (fun r' dG=>?_) cd pN (ow (fun _ _ h=>h) (fun _ h=>h) aT ht) pG⟩⟩
  ·simp only [Instr.takeDeferred,Sem.run_bind,MC (P:=O.P) a1 (fun _ _ _=>by simp),Result.andThen_ok,Dv (P:=O.P) a1 (fun _ _ _=>by simp),Sem.run_pure]
  ·obtain ⟨b1,b2,b3⟩:=hr r' (List.mem_cons_of_mem _ dG);exact ⟨(fm.other r' (fun e=>fq (e▸dG))).trans b1,b2,b3⟩
end
section
variable {O:a8} {self:b9}
def ahu (hO:ek O) (hS:∀v s ex s',self v s=some (ex,s')->∀c h l k,(comp O.P (O.hint h) c l k).1=v->qY O h c s ex s') {n:Nat} {F:ax} (hF:O.prog n=some F) {hp:Hp} {ct:Nat} {ap:List AV} {ex:Ex} {s:St}
  (hv:self F.body ⟨eV 0 ap,hp,ct,ct⟩=some (ex,s)) (hex:ex= .normal\/ex= .ret) {v:AV} (hr:fT s F.dI=some v):qX O n hp ct ap v s.hp s.ct:=by
 intro m S w args hh fM;obtain ⟨fn,q1,q2,q3⟩:=hO.prog n F hF;obtain ⟨c,q4,q5,q6,q7⟩:=L8 q2;refine .inl ⟨H5 q1 (by rw [q4];rfl) q3,?_⟩
 have hc:=hS _ _ _ _ hv c n 0 0 q5.symm;have hw:=hc none w.heap.size m S w {tmps:=args++wG (fn.ntmps-args.size) undef,defers:=[]} (fun l hl=>by cases hl) (Y5 _ fM) hh (yC _) (by simp;omega) hh.eK (yC _) ⟨[],rfl,by simp,by simp⟩
 refine callsIn_of_wp_marks (F:=Fence.wide) q1 q4 trivial (wpIn_mono hw ?_);rintro e a' w' ⟨rfl,m',S',k1,k2,k3,k4,k5,k6,rs,k7,k8,k9⟩;have main:yaR Fence.wide 0 O.P fn a'.tmps (oC O m S w hp ct v s.hp s.ct) a'.defers .returning w':=by
  rw [k7];exact Ny q6 hr k4 rs w' k8 k9 hh.eK k2 k1 k5
 rcases hex with rfl | rfl
 ·exact main
 ·exact main
def oH.mono {P:yJ} {f:uE} {args:Array yd} {w:yf} {R R':Ending->yf->Prop} (h:oH P f args w R) (hr:∀e w',R e w'->R' e w'):oH P f args w R':=by
 rcases h with ⟨h1,h2⟩ | ⟨u,w',h1,h2⟩
 ·exact .inl ⟨h1,CallsIn.mono h2 hr⟩
 ·exact .inr ⟨u,w',h1,hr _ _ h2⟩
def Y6 {w:yf} {S:Nat->Prop} (hg:oS O w) (hs:∀b,S b->b<w.heap.size):aJ O dJ S w [] 0:=
 ⟨(fun id o p h _=>by simp [ak] at h),(fun id p h=>by cases h),(fun i j oi oj pi pj h=>by simp [ak] at h),hs,(fun id p h=>by cases h),(fun id p h=>by cases h),hg.1,hg.2,(fun id o h=>by simp [ak] at h)⟩
def H6 {b:Nat} (h:da dJ [] b):False:=by
 obtain ⟨_,_,_,h,_⟩:=h;simp [ak] at h
def LV {n:Nat} {ap:List AV} {v r:AV} {s:St} (h:qX O n [] 0 ap v s.hp s.ct) (hr:result s.hp v=some r):dQ O n ap r:=by
 intro w S args hg hs fM hp;refine oH.mono (h dJ S w args (Y6 hg hs) fM) ?_;rintro e w' ⟨u,m',S',rfl,k1,k2,k3,k4⟩;have cd:∀b,da m' s.hp b->w.heap.size<=b:=fun b hb=>(k4.own b hb).elim (fun h=>(H6 h).elim) (fun h=>h)
 obtain ⟨S2,g1,g2,g3,g4⟩:=YW (lo:=w.heap.size) k1 hr k3 cd;refine ⟨u,S2,rfl,⟨k4.os,k4.tape,k4.output,k4.size,fun b hb=>k4.same b hb H6⟩,fun b hb=>g1 b (k4.sub b hb),fun b hb=>?_,g3,g4⟩;rcases g2 b hb with h | h
 ·rcases k4.new b h with h | h | h
  ·exact .inl h
  ·exact (H6 h).elim
  ·exact .inr h
 ·exact .inr (cd b h)
def X8 (hO:ek O) (hS:∀v s ex s',self v s=some (ex,s')->∀c h l k,(comp O.P (O.hint h) c l k).1=v->qY O h c s ex s'):jI O self:=by
 have heap:∀(n:Nat) (F:ax),O.prog n=some F->∀(hp:Hp) (ct:Nat) (ap:List AV) (ex:Ex) (s:St) (v:AV),self F.body ⟨eV 0 ap,hp,ct,ct⟩=some (ex,s)->(ex= .normal\/ex= .ret)->fT s F.dI=some v->qX O n hp ct ap v s.hp s.ct:=
  fun n F hF hp ct ap ex s v h1 h2 h3=>ahu hO hS hF h1 h2 h3
 refine ⟨?_,?_,fun hp ct l xs v ai aO hv=>aaP hS hv⟩
 ·intro n ap r hv;unfold b5 at hv
  cases hL:O.aK.pure n with
  | some sp=>rw [hL] at hv;exact hO.aK n sp ap r hL hv
  | none=>
   simp only [hL] at hv
   cases hF:O.prog n with
   | none=>simp [hF] at hv
   | some F=>
    simp only [hF] at hv
    split at hv
    ·rename_i s hb
     cases hr:fT s F.dI with
     | none=>simp [hr] at hv
     | some v=>simp only [hr] at hv;exact LV (heap n F hF [] 0 ap .normal s v hb (.inl rfl) hr) hv
    ·rename_i s hb
     cases hr:fT s F.dI with
     | none=>simp [hr] at hv
     | some v=>simp only [hr] at hv;exact LV (heap n F hF [] 0 ap .ret s v hb (.inr rfl) hr) hv
    ·cases hv
 ·intro hp ct n ap v ai aO hv;unfold fK at hv
  cases hL:O.aK.heap n with
  | some sp=>rw [hL] at hv;exact hO.E9 n sp hp ct ap v ai aO hL hv
  | none=>
   simp only [hL] at hv
   cases hF:O.prog n with
   | none=>simp [hF] at hv
   | some F=>
    grind
def Xu (hO:ek O):∀n,jI O (ev O.prog O.aK n):=by
 intro n
 induction n using Nat.strongRecOn with
 | _ n ih=>
  refine X8 hO (fun v s ex s' hv c h l k hc=>?_)
  cases n with
  | zero=>rw [Ee] at hv;cases hv
  | succ n=>
   rw [A3,<-hc] at hv;exact acS hO n (fun k hk=>ih k (by omega)) h c l k n (yC _) s ex s' hv
def sound (hO:ek O) {n f:Nat} {ap:List AV} {r:AV} (h:Kl O.prog O.aK n f ap=some r):dQ O f ap r:=(Xu hO n).pure f ap r h
end
end
end VE
