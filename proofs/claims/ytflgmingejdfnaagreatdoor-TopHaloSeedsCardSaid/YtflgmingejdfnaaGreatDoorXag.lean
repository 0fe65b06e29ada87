import Derived.LoopNIn
import Derived.RangeFuncIn
import Derived.Test.YtflgmingejdfnaaGreatDoorXaf
import Derived.Test.YtflgmingejdfnaaGreatDoorXaa
set_option linter.all false
set_option maxRecDepth 100000
open Array renaming getD_eq_getD_getElem?→wj,getElem?_eq_some_iff→y8,replicate→wN
open Bool renaming and_eq_true→yf
open Go renaming Code→vz,Deferred→yaF,Exit→vT,Func→uN,FuncId→uM,LeavesInM→yaG,Loop→vA,Oper→yL,Program→yM,ResultVar→yaD,Value→ye,World→yg
open List renaming mapM_cons→wW
open Nat renaming beq→yq,eq_of_beq_eq_true→yk,le_refl→yC,le_trans→xz,zero_add→yy,zero_le→vQ
open Option.some renaming injEq→yb
open Prod.mk renaming injEq→yi
namespace VE
section
open Go
def XL {F:Fence} {n:Nat} {P:yM} {Q:vT->Act->yg->Prop} {a:Act} {w:yg} {c:vz} (h:c.wpIn F n P Q a w) (hg:∀l a w,¬Q (.goto l) a w):(Code.scope c).wpIn F n P Q a w:=by
 intro b k cs cD hb hr;have h0:(lone (b.atR a (.code (.scope c)::k)) cs w).fenced P F:=fenced_calm hb hr rfl;have s0:step P (lone (b.atR a (.code (.scope c)::k)) cs w)= .next (lone (b.atR a (.code c:: .inScope c::k)) cs w):=step_lone_go (by simp [stepG,stepG.exec,Frame.atR]);obtain ⟨e,a₁,w₁,hq,rB⟩:=h b (.inScope c::k) cs cD hb hr;have hx:∀id,exitTo id (.inScope c::k)=exitTo id k:=fun id=>by simp [exitTo]
 cases e with
 | normal=>
  have s1:step P (lone (b.atR a₁ (.inScope c::k)) cs w₁)= .next (lone (b.atR a₁ k) cs w₁):=step_lone_go (by simp [stepG,stepG.exec,Frame.atR]);exact ⟨.normal,a₁,w₁,hq,.head h0 s0 (StepsIn.trans rB (.one (fenced_calm hb hr rfl) s1))⟩
 | exit id=>
  exact ⟨.exit id,a₁,w₁,hq,fun k' hk=> .head h0 s0 (rB.1 k' (by rw [hx];exact hk)),fun dj hk=>let ⟨k₁,h1,h2⟩:=rB.2 dj (by rw [hx];exact hk);⟨k₁,h1,.head h0 s0 h2⟩⟩
 | goto l=>exact (hg _ _ _ hq).elim
 | ret=>exact ⟨_,a₁,w₁,hq,.of_steps (.one h0 s0) rB⟩
 | panic ch=>exact ⟨_,a₁,w₁,hq,.of_steps (.one h0 s0) rB⟩
 | outgrown=>exact ⟨_,a₁,w₁,hq,.of_steps (.one h0 s0) rB⟩
def lO:Ex->vT
 | .normal=> .normal
 | .ret=> .ret
 | .exit id=> .exit id
def Marks (lo:Nat) (S:Nat->Prop) (w:yg) (ds:List yaF):Prop:=∃rs:List Nat,ds=rs.map (fun r=>{target:= .collected r,args:=#[]})/\rs.Nodup/\
 ∀r,r∈rs->w.heap[r]? =some (.deferred (some []))/\¬S r/\lo<=r
def oW (ro:Option Nat) (w:yg):Prop:=∀l,ro=some l->∃r:vA,w.heap[l]? =some (.loop r)
section
variable {O:aZ} {m:Mp} {S:Nat->Prop} {w:yg} {hp:Hp} {ct:Nat}
def NZ (hh:aH O m S w hp ct) {b:Nat} (h:cX m hp b):∀x,w.heap[b]?≠some (.deferred x):=by
 intro x hx;obtain ⟨id,o,p,h1,h2,rfl⟩:=h;have h3:=hh.obj id o p h1 h2
 cases o with
 | cells rw pu ex sz cs=>obtain ⟨q,arr,t,g1,g2,_⟩:=h3;rw [h2] at g1;injection g1 with g1;subst g1;rw [hx] at g2;cases g2
 | mp rw ks vs=>obtain ⟨q,es,clock,g1,g2,_⟩:=h3;rw [h2] at g1;injection g1 with g1;subst g1;rw [hx] at g2;cases g2
 | si s pos=>obtain ⟨q,t,g1,g2,_⟩:=h3;rw [h2] at g1;injection g1 with g1;subst g1;rw [hx] at g2;cases g2
 | lp tm ps as_ body st pe=>obtain ⟨q,l,hi,g1,g2,_⟩:=h3;rw [h2] at g1;injection g1 with g1;subst g1;rw [hx] at g2;cases g2
def qw (hh:aH O m S w hp ct) {m':Mp} {S':Nat->Prop} {w':yg} {ai:Hp} {base lo:Nat} (hf:bH m S w hp m' S' w' ai base) {ds:List yaF} (h:Marks lo S w ds):Marks lo S' w' ds:=by
 obtain ⟨rs,h1,h2,h3⟩:=h;refine ⟨rs,h1,h2,fun r hr=>?_⟩;obtain ⟨this,h4,h5⟩:=h3 r hr;have aU:=(y8.1 this).1;have jS:¬cX m hp r:=fun ho=>NZ hh ho _ this
 refine ⟨(hf.same r aU jS).trans this,fun hs=>?_,h5⟩;rcases hf.new r hs with h | h | h
 ·grind
 ·grind
 ·omega
def Hz {m':Mp} {S':Nat->Prop} {w':yg} {ai:Hp} {base:Nat} {ro:Option Nat} (hf:bH m S w hp m' S' w' ai base) (h:oW ro w):oW ro w':=fun l hl=>
 let ⟨r,hr⟩:=h l hl
 hf.loops l r hr
def dG (O:aZ) (m:Mp) (S:Nat->Prop) (w:yg) (s:St) (ex:Ex) (s':St) (n lo:Nat) (e:vT) (a':Act) (w':yg):Prop:=
 e=lO ex/\∃m' S',bJ O m' S' w' s'.tm a'.tmps/\aH O m' S' w' s'.hp s'.ct/\s'.base=s.base/\s.base<=s'.ct/\bH m S w s.hp m' S' w' s'.hp s.base/\a'.tmps.size=n/\Marks lo S' w' a'.defers
def rm (O:aZ) (h:Nat) (c:vz) (s:St) (ex:Ex) (s':St):Prop:=
 ∀(ro:Option Nat) (lo:Nat) (m:Mp) (S:Nat->Prop) (w:yg) (a:Act),oW ro w->bJ O m S w s.tm a.tmps->aH O m S w s.hp s.ct->s.base<=s.ct->(O.hint h).n<=a.tmps.size->O.w0.heap.size<=lo->lo<=w.heap.size->Marks lo S w a.defers->
  c.wpIn (WF ro) 0 O.P (dG O m S w s ex s' a.tmps.size lo) a w
structure dX (O:aZ):Prop where
 hint:∀h,dW O (O.hint h)
 mixed:O.P.follows .mixedOrders=true
 prog:∀n F,O.prog n=some F->∃fn,O.P.funcs[O.ae n]? =some fn/\s7 O.P (O.hint n) fn=some F/\fn.name≠ "runtime.NumGoroutine"
 aI:∀n sp vals r,O.aI.pure n=some sp->sp vals=some r->dO O n vals r
 Fc:∀n sp hp ct vals v ai aK,O.aI.heap n=some sp->sp hp ct vals=some (v,ai,aK)->rk O n hp ct vals v ai aK
def D1 {P:yM} {H:Hint} {ops:Array yL}:∀(rs:List aR) (l:List yL) (done:List aR) (ms:List Nat),jf P H ops rs l->jf P H ops (nF done rs ms) l
 | [],l,done,ms,h=>by
  cases ms<;>simpa only [nF] using h
 | r::rs,[],done,ms,h=>by simp [jf] at h
 | r::rs,o::l,done,[],h=>by
  obtain ⟨d,g,op⟩:=r;cases op<;>simpa only [nF] using h
 | r::rs,o::l,done,m::ms,h=>by
  obtain ⟨h1,h2⟩:=h;obtain ⟨d,g,op⟩:=r
  cases op with
  | eX FR f xs=>
   refine ⟨?_,D1 rs l _ ms h2⟩;rcases h1 with h1 | ⟨_,h1⟩
   ·refine .inl ⟨?_,h1.dst,h1.ok,h1.guard⟩;obtain ⟨c,f',g1,g2,g3,g4⟩:=HX h1.op;rw [g3,g4];exact .inr (.inl ⟨c,f',_,g1,g2,rfl⟩)
   ·simp [bad] at h1
  | st sz x y=>
   refine ⟨?_,D1 rs l _ ms h2⟩;rcases h1 with h1 | ⟨_,h1⟩
   ·refine .inl ⟨?_,h1.dst,h1.ok,h1.guard⟩;unfold stOp
    split
    ·exact h1.op
    ·obtain ⟨t,x',y',g1,g2,g3,g4⟩:=ag2 h1.op;exact .inr (.inr ⟨t,x',y',sz,_,g1,g2,by rw [g3,g4]⟩)
   ·simp [bad] at h1
  | _=>
   exact ⟨h1,D1 rs l _ ms h2⟩
end
section
variable {O:aZ} {self:bZ}
def N1 {P:yM} {H:Hint} {ops:Array yL}:∀{rs:List aR} {l:List yL},jf P H ops rs l->rs.length=l.length/\∀(i:Nat) (r:aR) (o:yL),rs[i]? =some r->l[i]? =some o->EH P H ops r o\/(r.guard=none/\r.op=bad)
 | [],[],_=>⟨rfl,fun i r o h=>by simp at h⟩
 | [],_::_,h=>by simp [jf] at h
 | _::_,[],h=>by simp [jf] at h
 | r::rs,o::l,h=>by
  obtain ⟨h1,h2⟩:=N1 h.2;refine ⟨by simp [h1],fun i r' o' hr ho=>?_⟩
  cases i with
  | zero=>simp at hr ho;subst hr;subst ho;exact h.1
  | succ i=>exact h2 i r' o' (by simpa using hr) (by simpa using ho)
def YO {m:Mp} {S:Nat->Prop} {w:yg} {hp:Hp} {ct:Nat} (hh:aH O m S w hp ct):Calm w {w with drawn:=w.drawn+1}:=⟨rfl,rfl,rfl,yC _,fun _ _=>rfl⟩
def aez (hO:dX O) (hC:jA O self) (h:Nat) (id:Nat) (ops:Array yL) (draw:Bool) (k:Nat) {s s':St} (hv:cN O.prog O.aI self (D9 O.P (O.hint h) ops draw k).1 s=some s'):rm O h (.region id ops draw) s .normal s':=by
 intro ro lo m S w a cD ht hh hb hn b5 en bW;unfold D9 at hv;have FW:=Mf (P:=O.P) (H:=O.hint h) (ops:=ops) ops.toList k;generalize hq:qK O.P (O.hint h) ops ops.toList k=q at hv FW;obtain ⟨l,k'⟩:=q;simp only at hv FW;have post:∀{a':Act} {m':Mp} {S':Nat->Prop} {w':yg},aH O m' S' w' s'.hp s'.ct->s.ct<=s'.ct->bJ O m' S' w' s'.tm a'.tmps->bH m S w s.hp m' S' w' s'.hp s.ct->a'.tmps.size=a.tmps.size->a'.defers=a.defers->s'.base=s.base->dG O m S w s .normal s' a.tmps.size lo .normal a' w':=by
  intro a' m' S' w' h1 h2 h3 h4 h5 h6 h7;exact ⟨rfl,m',S',h3,h1,h7,by omega,h4.mG hb,h5,by rw [h6];exact qw hh h4 bW⟩
 cases draw with
 | false=>
  simp only [yu] at hv;refine wpIn_region ?_;rw [List.range_eq_range'];have hl:ops.size=ops.toList.length:=by simp
  rw [hl];exact O2 hC (hO.hint h) ops.toList l 0 s s' a m S w (fun j=>by simp) FW hv ht hh hn (fun a' m' S' w' h1 h2 h3 h4 h5 h6 h7=>post h1 h2 h3 h4 h5 h6 h7)
 | true=>
  simp only [ym] at hv
  cases lW:(AM ops.toList 0&&sS [] (nF [] l (iR [] ops.toList)) (iR [] ops.toList)) with
  | false=>
   rw [lW] at hv;simp [cN,bad,aY,cw,ao] at hv
  | true=>
   rw [lW] at hv;simp only [ym] at hv;simp only [yf] at lW;have S3:=D1 l ops.toList [] (iR [] ops.toList) FW;generalize nF [] l (iR [] ops.toList)=rs at hv lW S3;obtain ⟨hlen,aj⟩:=N1 S3;obtain ⟨bD,bq,bj,vF,hR,e1,e2,e3,e4,e5,e6,e7⟩:=O3 hv;have hG:mz O (O.hint h) self ops rs bD bq bj vF:=by
    refine ⟨hR,by rw [hlen];simp,fun i r o hr ho=>?_,fun i j x y Kj hx hy=>?_,fun i o ho e he hbd=>?_⟩
    ·rcases aj i r o hr (by simpa using ho) with g | ⟨g1,g2⟩
     ·grind
     ·have:=hR.step i r hr
      simp [eJ,g1,kB,g2,bad,aY,cw,ao] at this
    ·obtain ⟨mm,g1,g2⟩:=Lv (done:=[]) (i:=i) (j:=j) (a:=x) (b:=y) lW.2 (by simpa using hx) hy (by simpa using Kj);refine g2.imp (fun g=>?_) (fun g=>by simpa using g);unfold Ord
     grind
    ·have:=Lm lW.1 (j:=i) (o:=o) (by simpa using ho) e he hbd
     omega
   refine wpIn_region_any hO.mixed ?_;have BL:=YO hh;have im:=AQ hh BL (S':=S) (fun _ h=>h) (fun _ h=> .inl h) hh.slt
   have FQ:bH m S w s.hp m S {w with drawn:=w.drawn+1} s.hp (bj 0):=AZ hh BL (fun _ h=>h) (fun _ h=> .inl h);obtain ⟨c,c1,c2,c3,c4⟩:=IQ rs rs.length 0 (by omega);have hg:∀k',k'<=c->fj (bq 0) (bj 0) (bq (0+k')) (bj (0+k')):=fun k' kV=>
    DF hR (by rw [e2,e3];exact hh.aU) k' (by omega) (fun j r g1 g2 hr=>A4 hr (c3 j g1 (by omega)))
   have gR:=hg c (yC _);rw [yy] at gR;obtain ⟨S1,g1,g2,g3,g4⟩:=DY (by rw [e2,e3];exact im:aH O m S {w with drawn:=w.drawn+1} (bq 0) (bj 0)) gR
   have my:∀i,(wN ops.size false).getD i false=true->False:=fun i hi=>by
    simp only [wj] at hi
    grind
   refine aey (m0:=m) (S0:=S) (w0:=w) (n0:=a.tmps.size) (d0:=a.defers) hC (hO.hint h) hG hn (fun a' m' S' w' h1 h2 h3 h4 h5 h6=>?_) ops.size _ 0 c m S1 _ a (by simp) ?_ (fun j o _ hj=>(my j hj).elim) ?_
   ·rw [e5,e6] at h1;rw [e3,e6] at h2;rw [e4] at h3;rw [e2,e3,e5] at h4;exact post h1 h2 h3 h4 h5 h6 e7
   ·unfold left;rw [List.countP_eq_length.2]
    ·simp
    ·intro i hi;simp only [Bool.not_eq_true']
     cases hq:(wN ops.size false).getD i false with
     | false=>rfl
     | true=>exact (my i hq).elim
   ·refine ⟨vQ _,c2,fun i hi=>by omega,c3,c4.imp (fun h=>h) (fun h=>⟨h,fun hd=>my c hd⟩),fun i r _ _ _ hd=>my i hd,g1,fun id p hp=> .inl (by rw [e3];exact hh.lt id p hp),fun t=>⟨0,vQ _,fun i r _ _=>⟨fun hd=>(my i hd).elim,fun h=>by omega⟩,?_⟩,?_,gR.kY,rfl,rfl,.inl rfl,fun j hj=>?_⟩
    ·rw [e1];exact iN (fun _ _ h=>h) (fun b hb=>g2 b hb) (fun b hb=>BL.same b (hh.slt b hb)) _ _ (ht t)
    ·rw [e2];have g5:=g4 (bj 0);rw [e2] at g5;exact FQ.trans g5
    ·have:=(hg j hj).lt
     rw [yy] at this;exact this
end
end
section
open Go
section
variable {O:aZ} {m:Mp} {S:Nat->Prop} {w:yg} {hp:Hp} {ct:Nat}
def Mi (hh:aH O m S w hp ct) {g:Nat} {w':yg} (hw:One w w' g) (hg:¬S g) (ho:¬cX m hp g) (b5:O.w0.heap.size<=g):aH O m S w' hp ct:=by
 have aQ:eh S w w':=fun b hb=>hw.other b (fun e=>hg (e▸hb))
 refine ⟨fun id o p h1 h2=>?_,hh.lt,hh.inj,fun b hb=>by rw [hw.size];exact hh.slt b hb,fun id p h=>by rw [hw.size];exact hh.blt id p h,hh.low,fun b hb=>?_,by rw [hw.size];exact hh.eG,hh.aU⟩
 ·exact ml (fun _ _ h=>h) (fun _ h=>h) aQ (fun q hq=>hw.other _ (fun e=>ho ⟨id,o,q,h1,hq,e⟩)) (fun _ _ h=>h) (hh.obj id o p h1 h2)
 ·rw [hw.other b (by omega)];exact hh.iB b hb
def Mj {P:yM} {b:Nat} {o:Go.Obj} (h:w.heap[b]? =some o) (hc:∀c t f,o≠.cells c t f):(getObj b).run P w= .ok o w:=by
 simp only [getObj,Sem.run,h]
def Dw {P:yM} {b:Nat} {o x:Go.Obj} (h:w.heap[b]? =some o) (hc:∀c t f,o≠.cells c t f):(setObj b x).run P w= .ok () {w with heap:=w.heap.setIfInBounds b x}:=by
 simp only [setObj,Sem.run,h]
def AD {P:yM} {b:Nat} {r:vA} (h:w.heap[b]? =some (.loop r)):(Instr.getLoop b).run P w= .ok r w:=by
 simp only [Instr.getLoop,Sem.run_bind,Mj (P:=P) h (fun _ _ _=>by simp),Result.andThen_ok,Sem.run_pure]
def A5 (hh:aH O m S w hp ct) {l:Nat} {tm:Env} {ps:List Nat} {as_ body:VC} {st:Nat} {pe:mE} {p:Pl} (hg:aj hp l=some (.lp tm ps as_ body st pe)) (hm:m l=some p):
  ∃(r:vA) (h:Nat),w.heap[p.b]? =some (.loop r)/\¬S p.b/\r.state=ph st/\st<=2/\r.pending=nw pe/\bJ O m S w tm r.tmps/\r.params.toList=ps/\pJ O.P (O.hint h) as_ r.assign/\pJ O.P (O.hint h) body r.body/\
   (O.hint h).n<=r.tmps.size/\nG (O.hint h).n ps=true:=by
 obtain ⟨q,r,h,g1,g2,g3⟩:=hh.obj l _ p hg hm
 grind
def M5 (hh:aH O m S w hp ct) {l:Nat} {tm:Env} {ps:List Nat} {as_ body:VC} {st:Nat} {pe:mE} {p:Pl} (hg:aj hp l=some (.lp tm ps as_ body st pe)) (hm:m l=some p) {r:vA} (hr:w.heap[p.b]? =some (.loop r))
  {st':Nat} {pe':mE} (h2:st'<=2):
  aH O m S {w with heap:=w.heap.setIfInBounds p.b (.loop {r with state:=ph st',pending:=nw pe'})} (aW hp l (.lp tm ps as_ body st' pe')) ct/\
  bH m S w hp m S {w with heap:=w.heap.setIfInBounds p.b (.loop {r with state:=ph st',pending:=nw pe'})} (aW hp l (.lp tm ps as_ body st' pe')) ct:=by
 obtain ⟨r',h,g1,g2,g3,g4,g5,g6,g7,g8,g9,g10,g11⟩:=A5 hh hg hm;rw [hr] at g1;injection g1 with g1
 injection g1 with g1
 subst g1;have fa:=sJ w p.b (.loop {r with state:=ph st',pending:=nw pe'})
 refine AX hh hg hm g2 fa ⟨p,{r with state:=ph st',pending:=nw pe'},h,hm,Ds hr,g2,rfl,h2,rfl,?_,g7,g8,g9,g10,g11⟩ (fun _ _=>⟨_,Ds hr⟩);exact oJ (fun _ _ h=>h) (fun _ h=>h) (fun b hb=>fa.other b (fun e=>g2 (e▸hb))) g6
def M6 {n:Nat}:∀{ps:List Nat} {vs:List AV} {us:List ye} {tm tm':Env} {tmps:Array ye},lG tm ps vs=some tm'->ak O.ae m S w vs us->bJ O m S w tm tmps->n<=tmps.size->nG n ps=true->
  ps.length=us.length/\bJ O m S w tm' ((ps.zip us).foldl (fun t (x:Nat×ye)=>t.setIfInBounds x.1 x.2) tmps)/\((ps.zip us).foldl (fun t (x:Nat×ye)=>t.setIfInBounds x.1 x.2) tmps).size=tmps.size
 | [],[],us,tm,tm',tmps,h,hr,ht,hn,ha=>by
  simp only [lG,yb] at h;simp only [ak] at hr
  simp_all
 | [],_::_,us,tm,tm',tmps,h,hr,ht,hn,ha=>by simp [lG] at h
 | _::_,[],us,tm,tm',tmps,h,hr,ht,hn,ha=>by simp [lG] at h
 | p::ps,v::vs,us,tm,tm',tmps,h,hr,ht,hn,ha=>by
  simp only [lG] at h;obtain ⟨u,t,rfl,h1,h2⟩:=hr;simp only [nG,yf] at ha;have hp:=nn.1 ha.1;have FX:bJ O m S w ((p,v)::tm) (tmps.setIfInBounds p u):=H0 (a:=⟨tmps,[]⟩) (d:=some p) ht (fun i hi=>by injection hi with hi;show i<tmps.size;omega) h1
  obtain ⟨g1,g2,g3⟩:=M6 (n:=n) h h2 FX (by simpa using hn) ha.2
  simp_all
def aau (ps:Array Tmp) (args:Array ye) (tmps:Array ye):(ps.zip args).foldl (fun tmps (x:Tmp×ye)=>tmps.setIfInBounds x.1 x.2) tmps=(ps.toList.zip args.toList).foldl (fun t (x:Nat×ye)=>t.setIfInBounds x.1 x.2) tmps:=by
 rw [<-Array.foldl_toList,Array.toList_zip]
def WV {P:yM} {b:Nat} {r:vA} (h:w.heap[b]? =some (.loop r)) (jump:Option vz):
  (Instr.endRound b jump).run P w= .ok (.bool jump.isNone) {w with heap:=w.heap.setIfInBounds b (.loop {r with state:=if jump.isNone then .ready else .done,pending:=jump})}:=by
 simp only [Instr.endRound,Sem.run_bind,AD h,Result.andThen_ok,Dw (P:=P) h (fun _ _ _=>by simp),Sem.run_pure]
def WH {P:yM} {b:Nat} {r:vA} (h:w.heap[b]? =some (.loop r)) (hs:r.state= .ready):
  (Instr.beginRound b).run P w= .ok () {w with heap:=w.heap.setIfInBounds b (.loop {r with state:= .busy})}:=by
 simp only [Instr.beginRound,Sem.run_bind,AD h,Result.andThen_ok,Dw (P:=P) h (fun _ _ _=>by simp),hs,Sem.run_pure]
def aav {self:bZ} (hS:∀v s ex s',self v s=some (ex,s')->∀c h l k,(comp O.P (O.hint h) c l k).1=v->rm O h c s ex s') {l:Nat} {xs:List AV} {v:AV} {ai:Hp} {aK:Nat}
  (hv:fy self hp ct l xs=some (v,ai,aK)):P4 O hp ct l xs v ai aK:=by
 intro m S w args p hh hm fC;unfold fy at hv
 split at hv
 case h_2=>cases hv
 rename_i tm ps as_ body pe hg;obtain ⟨r,h,g1,g2,g3,g4,g5,g6,g7,⟨ca,ka,g8⟩,⟨cb,kb,g9⟩,g10,g11⟩:=A5 hh hg hm
 cases hb:lG tm ps xs with
 | none=>simp [hb] at hv
 | some tm'=>
  simp only [hb] at hv;obtain ⟨b1,b2,b3⟩:=M6 hb fC g6 g10 g11;rw [<-g7] at b1 b2 b3;have eU:args.size=r.params.size:=by
   grind
  let tmps:Array ye:=(r.params.zip args).foldl (fun tmps (x:Tmp×ye)=>tmps.setIfInBounds x.1 x.2) r.tmps
  have S4:tmps=(r.params.toList.zip args.toList).foldl (fun t (x:Nat×ye)=>t.setIfInBounds x.1 x.2) r.tmps:=aau _ _ _;refine ⟨r.fn,tmps,r.assign,r.body,?_,?_⟩
  ·simp only [Instr.yield,Sem.run_bind,AD g1,Result.andThen_ok,eU,uH,wq,yG,Sem.run_pure];rfl
  refine roundIn_of_wpIn (F:=Fence.wide) trivial ?_
  cases h1:self as_ ⟨tm',hp,ct,ct⟩ with
  | none=>simp [h1] at hv
  | some q=>
   obtain ⟨ex1,s1⟩:=q
   cases ex1 with
   | ret=>simp [h1] at hv
   | exit id=>simp [h1] at hv
   | normal=>
    simp only [h1] at hv;have gS:=hS _ _ _ _ h1 r.assign h ca ka g8;have cD:∀w',bH m S w hp m S w' hp ct->oW (some p.b) w':=fun w' hf=>Hz hf (fun l hl=>⟨r,by injection hl with hl;subst hl;exact g1⟩)
    refine wpIn_mono (gS (some p.b) w.heap.size m S w ⟨tmps,[]⟩ (cD w bH.refl) (by rw [S4];exact b2) hh (yC _) (by show _<=tmps.size;rw [S4,b3];exact g10) hh.eG (yC _) ⟨[],rfl,by simp,by simp⟩) ?_
    rintro e a1 w1 ⟨rfl,m1,S1,k1,k2,k3,k4,k5,k6,k7⟩;simp only [lO,Exit.then];have lX:m1 l=some p:=k5.old l p (hh.lt l p hm) hm
    split at hv
    case h_2=>cases hv
    rename_i lT mM rT re kS gR;obtain ⟨r1,im,f1,f2,f3,f4,f5,f6,f7,f8,f9,f10,f11⟩:=A5 k2 gR lX;have hbr:=WH (P:=O.P) f1 f3;obtain ⟨q1,q2⟩:=M5 k2 gR lX f1 (st':=1) (pe':=kS) (by omega)
    have bG:({r1 with state:=ph 1,pending:=nw kS}:vA)={r1 with state:= .busy}:=by rw [<-f5];rfl
    rw [bG] at q1 q2;refine ⟨_,hbr,?_⟩
    cases h2:self body ⟨s1.tm,aW s1.hp l (.lp lT mM rT re 1 kS),s1.ct,s1.ct⟩ with
    | none=>simp [h2] at hv
    | some q=>
     obtain ⟨ex,s2⟩:=q;simp only [h2] at hv;have rZ:=hS _ _ _ _ h2 r.body h cb kb g9
     have aiD:oW (some p.b) {w1 with heap:=w1.heap.setIfInBounds p.b (.loop {r1 with state:= .busy})}:=fun l hl=>by
      grind
     have Kr:bJ O m1 S1 {w1 with heap:=w1.heap.setIfInBounds p.b (.loop {r1 with state:= .busy})} s1.tm a1.tmps:=
      oJ (fun _ _ h=>h) (fun _ h=>h) (fun b hb=>q2.still b hb) k1
     have aiE:(O.hint h).n<=a1.tmps.size:=by
      grind
     refine wpIn_mono (rZ (some p.b) w.heap.size m1 S1 _ a1 aiD Kr q1 (yC _) aiE hh.eG (xz k5.size q2.size) (qw k2 q2 k7)) ?_;rintro e a2 w2 ⟨rfl,m2,S2,j1,j2,j3,j4,j5,j6,j7⟩;have jT:m2 l=some p:=j5.old l p (k2.lt l p lX) lX
     split at hv
     case h_2=>cases hv
     rename_i mN pH Cr BI Vb iX;obtain ⟨r2,Ks,d1,d2,d3,d4,d5,d6,d7,d8,d9,d10,d11⟩:=A5 j2 iX jT;have aiF:bH m S w hp m2 S2 w2 s2.hp ct:=(k5.trans (q2.mG k4)).trans (j5.mG k4);have S5:ct<=s2.ct:=xz k4 j4;have fin:∀(jump:Option vz) (st':Nat) (pe':mE),nw pe'=jump->ph st'=(if jump.isNone then .ready else .done)->st'<=2->
       ∃v' w',(Instr.endRound p.b jump).run O.P w2= .ok v' w'/\oN O m S w hp ct (.bool jump.isNone) (aW s2.hp l (.lp mN pH Cr BI st' pe')) s2.ct (.returned v') w':=by
      intro jump st' pe' e1 e2 e3;obtain ⟨z1,z2⟩:=M5 j2 iX jT d1 (st':=st') (pe':=pe') e3;rw [e1,e2] at z1 z2;exact ⟨_,_,WV d1 jump,_,m2,S2,rfl,z1,S5,by simp [af],aiF.trans (z2.mG S5)⟩
     cases ex with
     | normal=>
      simp only [yb,yi] at hv;obtain ⟨rfl,rfl,rfl⟩:=hv;simp only [lO,roundPost];exact fin none 0 .none rfl rfl (by omega)
     | ret=>
      simp only [IK,yb,yi] at hv;obtain ⟨rfl,rfl,rfl⟩:=hv;simp only [lO,roundPost];exact fin (some .ret) 2 .ret rfl rfl (by omega)
     | exit id=>
      simp only [IK,yb,yi] at hv;obtain ⟨rfl,rfl,rfl⟩:=hv;simp only [lO,roundPost];exact fin (some (.exit id)) 2 (.exit id) rfl rfl (by omega)
end
end
section
open Go
section
variable {O:aZ} {self:bZ}
def H5 {P:yM} {f:uM} {fn:uN} {args:Array ye} {w:yg} (hf:P.funcs[f]? =some fn) (hb:fn.body.isSome=true) (hn:fn.name≠ "runtime.NumGoroutine"):(callFunc f args).run P w= .ok (.enter f args) w:=by
 have h1:fn.body≠none:=fun e=>by rw [e] at hb;cases hb
 simp [callFunc,program,Sem.run,hf,h1,hn]
def LN {P:yM} {H:Hint} {fn:uN} {F:av} (h:s7 P H fn=some F):∃c,fn.body=some c/\F.body=(comp P H c 0 0).1/\j0 P fn.results.toList=some F.bF/\H.n<=fn.ntmps:=by
 unfold s7 at h
 split at h
 ·rename_i c rs h1 h2
  cases hb:Nat.ble H.n fn.ntmps with
  | false=>rw [hb] at h;cases h
  | true=>
   rw [hb] at h;simp only [ym,yb] at h;subst h
   simp_all
 ·cases h
def aaw {m:Mp} {S:Nat->Prop} {w:yg} {hp:Hp} {ct:Nat} {tm:Env} {a:Act} {ro:Option Nat} (fn:uM) (ps:Array Tmp) (assign body:vz) {as_ b':VC} {h:Nat} (hh:aH O m S w hp ct) (ht:bJ O m S w tm a.tmps) (cD:oW ro w)
  (Kt:pJ O.P (O.hint h) as_ assign) (Ku:pJ O.P (O.hint h) b' body) (hn:(O.hint h).n<=a.tmps.size) (lU:nG (O.hint h).n ps.toList=true) {lo:Nat} (en:lo<=w.heap.size) (bW:Marks lo S w a.defers):
  ∃l mark w1,(Instr.enterLoop fn a.tmps ps assign body ro).run O.P w= .ok (l,mark) w1/\aH O (dS m ct ⟨l,0,0,0⟩) S w1 ((ct,.lp tm ps.toList as_ b' 0 .none)::hp) (ct+1)/\
   bH m S w hp (dS m ct ⟨l,0,0,0⟩) S w1 ((ct,.lp tm ps.toList as_ b' 0 .none)::hp) ct/\m ct=none/\Marks lo S w1 (mark++a.defers)/\w.heap.size<=l:=by
 have bn:m ct=none:=by
  cases hq:m ct with
  | none=>rfl
  | some p=>have:=hh.lt ct p hq;omega
 have lay:∀(w':yg) (d:Nat),Calm w w'->Marks lo S w' a.defers->
   aH O (dS m ct ⟨w'.heap.size,0,0,0⟩) S (w'.alloc (.loop {state:= .ready,pending:=none,fn:=fn,tmps:=a.tmps,params:=ps,assign:=assign,body:=body,defers:=d})) ((ct,.lp tm ps.toList as_ b' 0 .none)::hp) (ct+1)/\
   bH m S w hp (dS m ct ⟨w'.heap.size,0,0,0⟩) S (w'.alloc (.loop {state:= .ready,pending:=none,fn:=fn,tmps:=a.tmps,params:=ps,assign:=assign,body:=body,defers:=d})) ((ct,.lp tm ps.toList as_ b' 0 .none)::hp) ct:=by
  intro w' d hw S6;have im:aH O m S w' hp ct:=AQ hh hw (fun _ h=>h) (fun _ h=> .inl h) (fun b hb=>Nat.lt_of_lt_of_le (hh.slt b hb) hw.size);have FQ:bH m S w hp m S w' hp ct:=AZ hh hw (fun _ h=>h) (fun _ h=> .inl h);have hg:fj hp ct ((ct,.lp tm ps.toList as_ b' 0 .none)::hp) (ct+1):=by
   refine ⟨fun id o ho=>⟨o,?_,fY.refl o⟩,by omega,fun id o ho=>?_,fun id o ho hi=>?_⟩
   ·rw [eW,yD (by have:=hh.aU id o ho;omega)];exact ho
   ·rw [eW] at ho;by_cases hc:ct=id
    ·omega
    ·simp only [hc,yG] at ho;have:=hh.aU id o ho;omega
   ·rw [eW,yD (by omega)] at ho;exact ⟨o,ho⟩
  have il:∀i q,aj ((ct,Obj.lp tm ps.toList as_ b' 0 .none)::hp) i=some q->i≠ct->aj hp i=some q:=fun i q h hi=>by
   rw [eW,yD (fun e=>hi e.symm)] at h;exact h
  have Ks:aH O m S w' ((ct,.lp tm ps.toList as_ b' 0 .none)::hp) (ct+1):=by
   have fZ:∀id p,m id=some p->id≠ct:=fun id p hm e=>by have:=hh.lt id p hm;omega
   exact ⟨fun id o p ho hm=>im.obj id o p (il id o ho (fZ id p hm)) hm,fun id p hm=>by have:=hh.lt id p hm;omega,
    fun i j oi oj pi pj hi hj bn eA e=>im.inj i j oi oj pi pj (il i oi hi (fZ i pi bn)) (il j oj hj (fZ j pj eA)) bn eA e,im.slt,im.blt,im.low,im.iB,im.eG,hg.lt⟩
  have lV:dQ O (dS m ct ⟨w'.heap.size,0,0,0⟩) S (w'.alloc (.loop {state:= .ready,pending:=none,fn:=fn,tmps:=a.tmps,params:=ps,assign:=assign,body:=body,defers:=d})) ct (.lp tm ps.toList as_ b' 0 .none):=by
   refine ⟨⟨w'.heap.size,0,0,0⟩,_,h,dc,heap_alloc_new w' _,?_,rfl,by omega,rfl,?_,rfl,Kt,Ku,hn,lU⟩
   ·intro hS
    have:=im.slt _ hS
    simp at this
   ·exact oJ (gX bn) (fun _ h=>h) (fun b hb=>(AF im _ b hb).trans (hw.same b (hh.slt b hb))) ht
  obtain ⟨S',k1,k2,k3⟩:=NN (i:=ct) (p:=⟨w'.heap.size,0,0,0⟩) Ks bn (by omega) rfl (fun o ho=>by
   rw [eW] at ho;simp only [yQ,yb] at ho;subst ho
   exact .inl ⟨lV,by simp [fK]⟩)
  have k1':aH O (dS m ct ⟨w'.heap.size,0,0,0⟩) S (w'.alloc (.loop {state:= .ready,pending:=none,fn:=fn,tmps:=a.tmps,params:=ps,assign:=assign,body:=body,defers:=d})) ((ct,.lp tm ps.toList as_ b' 0 .none)::hp) (ct+1):=by
   have CA:∀id q,m id=some q->q.b≠w'.heap.size:=fun id q hq=>by have:=im.blt id q hq;omega
   refine ⟨?_,k1.lt,k1.inj,fun b hb=>k1.slt b (k2 b hb),k1.blt,k1.low,k1.iB,k1.eG,k1.aU⟩;intro id o q ho hm;by_cases hc:id=ct
   ·subst hc;rw [eW] at ho
    grind
   ·rw [da hc] at hm;exact ml (gX bn) (fun _ h=>h) (AF im _) (fun q' bI=>alloc_old (im.blt id q' bI)) (fun _ _ h=>h) (im.obj id o q (il id o ho hc) hm)
  refine ⟨k1',FQ.trans ⟨rfl,rfl,rfl,by simp,fun b hb _=>alloc_old hb,fun _ h=>h,fun b hb=>AF im _ b hb,fun b hb=> .inl hb,?_,fun i q _ hq=>gX bn i q hq,fun b r hb=>⟨r,(alloc_old (y8.1 hb).1).trans hb⟩⟩⟩;rintro b ⟨i,o,q,g1,g2,g3⟩;by_cases hc:i=ct
  ·subst hc;rw [dc] at g2
   grind
  ·rw [da hc] at g2;exact .inl ⟨i,o,q,il i o g1 hc,g2,g3⟩
 cases ro with
 | none=>
  have BL:Calm w (w.alloc (.deferred (some []))):=⟨rfl,rfl,rfl,by simp,fun b hb=>alloc_old hb⟩;obtain ⟨rs,r1,r2,r3⟩:=bW;have aiG:Marks lo S (w.alloc (.deferred (some []))) a.defers:=⟨rs,r1,r2,fun r hr=>⟨(alloc_old (y8.1 (r3 r hr).1).1).trans (r3 r hr).1,(r3 r hr).2⟩⟩;obtain ⟨k1,k2⟩:=lay (w.alloc (.deferred (some []))) w.heap.size BL aiG
  refine ⟨(w.alloc (.deferred (some []))).heap.size,[{target:= .collected w.heap.size,args:=#[]}],_,?_,k1,k2,bn,?_,by simp⟩
  ·simp [Instr.enterLoop,newObj,Sem.run]
  ·have hold:∀(b:Nat) (x:Go.Obj),(w.alloc (.deferred (some []))).heap[b]? =some x->((w.alloc (.deferred (some []))).alloc (.loop {state:= .ready,pending:=none,fn:=fn,tmps:=a.tmps,params:=ps,assign:=assign,body:=body,defers:=w.heap.size})).heap[b]? =some x:=fun b x hb=>
    (alloc_old (y8.1 hb).1).trans hb
   refine ⟨w.heap.size::rs,by rw [r1];rfl,?_,?_⟩
   ·grind
   ·intro r hr;rcases List.mem_cons.1 hr with rfl | hr
    ·exact ⟨hold _ _ (heap_alloc_new w _),fun hs=>by have:=hh.slt _ hs;omega,en⟩
    ·exact ⟨hold _ _ ((alloc_old (y8.1 (r3 r hr).1).1).trans (r3 r hr).1),(r3 r hr).2⟩
 | some l0=>
  obtain ⟨r0,oe⟩:=cD l0 rfl;obtain ⟨k1,k2⟩:=lay w r0.defers Calm.refl bW;refine ⟨w.heap.size,[],_,?_,k1,k2,bn,?_,yC _⟩
  ·simp [Instr.enterLoop,AD oe,newObj,Sem.run]
  ·exact qw hh k2 bW
def ag3 (hO:dX O) (hC:jA O self) {h:Nat} {f:Operand} {ps:Array Tmp} {assign body:vz} {as_ b':VC} (Kt:pJ O.P (O.hint h) as_ assign) (Ku:pJ O.P (O.hint h) b' body) (lU:nG (O.hint h).n ps.toList=true)
  {s:St} {ex:Ex} {s':St} (hv:bh O.prog O.aI self (.rf (aF (O.hint h) f) ps.toList as_ b') s=some (ex,s')):rm O h (.rangeFunc f ps assign body) s ex s':=by
 intro ro lo m S w a cD ht hh hb hn b5 en bW;simp only [bh] at hv
 split at hv
 case h_2=>cases hv
 rename_i n first cap hx
 split at hv
 case h_1=>cases hv
 rename_i hL
 cases he:fA O.prog O.aI self ((s.ct,.lp s.tm ps.toList as_ b' 0 .none)::s.hp) (s.ct+1) n (first++(.fn (.y s.ct) [] []::cap)) with
 | none=>simp [he] at hv
 | some q=>
  obtain ⟨v,bl,mV⟩:=q;simp only [he] at hv
  split at hv
  case h_2=>cases hv
  rename_i mN pH Cr BI st pe iX
  cases aQ:yq st 1 with
  | true=>rw [aQ] at hv;cases hv
  | false=>
   rw [aQ] at hv;simp only [yu] at hv;refine wpIn_rangeFunc (fun fn _=>?_);obtain ⟨l,mark,w1,e1,e2,e3,e4,e5,e6⟩:=aaw (ro:=ro) fn ps assign body hh ht cD Kt Ku hn lU en bW;have rf:=bN (hO.hint h) ht f;rw [hx] at rf;simp only [af] at rf;obtain ⟨fi,ca,hf,r2,r3⟩:=rf;have hle:=gX e4 (p:=⟨l,0,0,0⟩);have zy:eh S w w1:=fun b hb=>e3.still b hb
   have fC:ak O.ae (dS m s.ct ⟨l,0,0,0⟩) S w1 (first++(.fn (.y s.ct) [] []::cap)) (fi++#[Value.func (.yield l) #[] #[]]++ca).toList:=by
    have:=iM (eV hle (fun _ h=>h) zy _ _ r2) (iM (a:=[.fn (.y s.ct) [] []]) (x:=[Value.func (.yield l) #[] #[]]) (by
     simp only [ak]
     exact ⟨_,[],rfl,by simp only [af];exact ⟨_,dc,rfl⟩,rfl⟩) (eV hle (fun _ h=>h) zy _ _ r3))
    grind
   have nI:=hC.heap _ _ _ _ _ _ _ he _ S w1 _ e2 fC;have hP:∃F,O.prog n=some F:=by
    unfold fA at he;rw [hL] at he
    cases hq:O.prog n with
    | none=>simp [hq] at he
    | some F=>exact ⟨F,rfl⟩
   obtain ⟨F,hF⟩:=hP;obtain ⟨fn',q1,q2,q3⟩:=hO.prog n F hF;obtain ⟨cb,q4,_⟩:=LN q2;have dZ:(callFunc (O.ae n) (fi++#[Value.func (.yield l) #[] #[]]++ca)).run O.P w1= .ok (.enter (O.ae n) (fi++#[Value.func (.yield l) #[] #[]]++ca)) w1:=H5 q1 (by rw [q4];rfl) q3
   refine ⟨l,mark,w1,{target:= .fn (.func (O.ae n)) ca,args:=fi++#[Value.func (.yield l) #[] #[]]},w1,O.ae n,fi++#[Value.func (.yield l) #[] #[]]++ca,w1,e1,?_,fun _ _=>trivial,?_,fun hd=>by simp [WF,Fence.wide] at hd,?_⟩
   ·show Sem.run O.P (Deferred.ofValue (a.eval f) _) w1=_
    rw [hf];simp [Deferred.ofValue,Act.eval]
   ·simp only [invoke];exact dZ
   ·rcases nI with ⟨_,nI⟩ | ⟨u,w',h1,_⟩
    case inr=>rw [dZ] at h1;cases h1
    have aeA:CallsIn (WF ro) 0 O.P (O.ae n) (fi++#[Value.func (.yield l) #[] #[]]++ca) w1 (oN O (dS m s.ct ⟨l,0,0,0⟩) S w1 ((s.ct,.lp s.tm ps.toList as_ b' 0 .none)::s.hp) (s.ct+1) v bl mV):=nI;refine CallsIn.mono aeA ?_;rintro e w3 ⟨u,m',S',rfl,k1,k2,k3,k4⟩;have ek:m' s.ct=some ⟨l,0,0,0⟩:=k4.old s.ct _ (Nat.lt_succ_self _) dc;obtain ⟨r,Ks,d1,d2,d3,d4,d5,d6,_⟩:=A5 k1 iX ek;have CI:(r.state==LoopState.busy)=false:=by
     rw [d3];rcases st with _ | _ | st
     ·rfl
     ·simp_all
     ·have:st=0:=by omega
      subst this;rfl
    have fa:=sJ w3 l (.loop {r with state:= .exhausted});have Kv:=NV k1 s.ct;have jS:¬cX m' (cp bl s.ct) l:=LI k1 iX ek
    have z1:aH O m' S' {w3 with heap:=w3.heap.setIfInBounds l (.loop {r with state:= .exhausted})} (VE.cp bl s.ct) mV:=Mi Kv fa d2 jS (by have:=hh.eG;omega)
    have z2:bH m' S' w3 bl m' S' {w3 with heap:=w3.heap.setIfInBounds l (.loop {r with state:= .exhausted})} (VE.cp bl s.ct) s.base:=by
     refine ⟨rfl,rfl,rfl,by rw [fa.size];exact yC _,fun b _ hb=>fa.other b (fun e=>hb (e▸Be iX ek)),fun _ h=>h,fun b hb=>fa.other b (fun e=>d2 (e▸hb)),fun b hb=> .inl hb,fun b hb=> .inl (O0 hb),fun _ _ _ h=>h,fun b x hb=>?_⟩
     grind
    have Jy:bH m S w s.hp m' S' {w3 with heap:=w3.heap.setIfInBounds l (.loop {r with state:= .exhausted})} (VE.cp bl s.ct) s.base:=
     ((e3.mG hb).trans (k4.mG (by omega))).trans z2
    have Fe:(Instr.endLoop l).run O.P w3= .ok (nw pe) {w3 with heap:=w3.heap.setIfInBounds l (.loop {r with state:= .exhausted})}:=by
     simp only [Instr.endLoop,Sem.run_bind,AD d1,Result.andThen_ok,CI,Bool.false_eq_true,yG,Sem.run_pure,Dw (P:=O.P) d1 (fun _ _ _=>by simp),d5]
    have S6:Marks lo S' {w3 with heap:=w3.heap.setIfInBounds l (.loop {r with state:= .exhausted})} (mark++a.defers):=qw k1 z2 (qw e2 k4 e5)
    have og:bJ O m' S' {w3 with heap:=w3.heap.setIfInBounds l (.loop {r with state:= .exhausted})} s.tm a.tmps:=by
     refine oJ (fun id p hp=>?_) Jy.sub (fun b hb=>Jy.still b hb) ht;have h1:=hh.lt id p hp;exact k4.old id p (by omega) (hle id p hp)
    have post:∀Kw,s'={s with hp:=VE.cp bl s.ct,ct:=mV}->ex=Kw->dG O m S w s ex s' a.tmps.size lo (lO Kw) {a with defers:=mark++a.defers} {w3 with heap:=w3.heap.setIfInBounds l (.loop {r with state:= .exhausted})}:=by
     rintro Kw rfl rfl;exact ⟨rfl,m',S',og,z1,rfl,by show s.base<=mV;omega,Jy,rfl,S6⟩
    refine ⟨_,_,Fe,?_⟩
    cases pe with
    | none=>
     simp only [yb,yi] at hv;exact post .normal hv.2.symm hv.1.symm
    | ret=>
     simp only [yb,yi] at hv;exact wpIn_ret (post .ret hv.2.symm hv.1.symm)
    | exit id=>
     simp only [yb,yi] at hv;exact wpIn_exit (post (.exit id) hv.2.symm hv.1.symm)
end
end
section
def Le (f g:bZ):Prop:=∀c s r,f c s=some r->g c s=some r
section
variable {P:aA} {L:Lib} {f g:bZ}
def GP (h:Le f g) (n:Nat) (vals:List AV) (r:AV) (hr:cf P L f n vals=some r):cf P L g n vals=some r:=by
 unfold cf at hr ⊢
 cases hL:L.pure n with
 | some sp=>simpa only [hL] using hr
 | none=>
  simp only [hL] at hr ⊢
  cases hP:P n with
  | none=>simp [hP] at hr
  | some F=>
   simp only [hP] at hr ⊢
   cases hf:f F.body ⟨eE 0 vals,[],0,0⟩ with
   | none=>simp [hf] at hr
   | some q=>rw [h _ _ _ hf];simpa only [hf] using hr
def GW (h:Le f g) (hp:Hp) (ct:Nat) (n:Nat) (vals:List AV) (r:AV×Hp×Nat) (hr:fA P L f hp ct n vals=some r):fA P L g hp ct n vals=some r:=by
 unfold fA at hr ⊢
 cases hL:L.heap n with
 | some sp=>simpa only [hL] using hr
 | none=>
  simp only [hL] at hr ⊢
  cases hP:P n with
  | none=>simp [hP] at hr
  | some F=>
   simp only [hP] at hr ⊢
   cases hf:f F.body ⟨eE 0 vals,hp,ct,ct⟩ with
   | none=>simp [hf] at hr
   | some q=>rw [h _ _ _ hf];simpa only [hf] using hr
def Ly (h:Le f g) (hp:Hp) (ct:Nat) (l:Nat) (xs:List AV) (r:AV×Hp×Nat) (hr:fy f hp ct l xs=some r):fy g hp ct l xs=some r:=by
 unfold fy at hr ⊢
 cases hl:aj hp l with
 | none=>simp [hl] at hr
 | some o=>
  simp only [hl] at hr ⊢
  split at hr
  ·rename_i tm ps as_ body pe oh;simp only [yb] at oh;subst oh
   (try simp only at hr ⊢)
   cases hb:lG tm ps xs with
   | none=>simp [hb] at hr
   | some tm'=>
    simp only [hb] at hr ⊢
    cases h1:f as_ ⟨tm',hp,ct,ct⟩ with
    | none=>simp [h1] at hr
    | some q=>
     rw [h _ _ _ h1];simp only [h1] at hr ⊢
     split at hr
     ·rename_i s1 Jz;simp only [yb] at Jz;subst Jz
      (try simp only at hr ⊢)
      split at hr
      ·rename_i lT mM rT re kS S7
       (try simp only [S7])
       cases h2:f body ⟨s1.tm,aW s1.hp l (.lp lT mM rT re 1 kS),s1.ct,s1.ct⟩ with
       | none=>simp [h2] at hr
       | some q2=>rw [h _ _ _ h2];simpa only [h2] using hr
      ·simp at hr
     ·simp at hr
  ·simp at hr
def LO (h:Le f g) (hp:Hp) (ct:Nat) (m:Md) (fv:AV) (xs:List AV) (r:AV×Hp×Nat) (hr:cw P L f hp ct m fv xs=some r):cw P L g hp ct m fv xs=some r:=by
 unfold cw at hr ⊢
 split at hr
 ·rename_i n first cap
  cases m with
  | pure=>
   simp only at hr ⊢
   cases hz:bO deep hp (first++(xs++cap)) with
   | none=>simp [hz] at hr
   | some q=>
    simp only [hz] at hr ⊢
    cases hc:cf P L f n q.1 with
    | none=>simp [hc] at hr
    | some u=>rw [GP h n q.1 u hc];simpa only [hc] using hr
  | own=>
   simp only at hr ⊢
   cases hz:bO deep hp (first++(xs++cap)) with
   | none=>simp [hz] at hr
   | some q=>
    simp only [hz] at hr ⊢
    cases hc:cf P L f n q.1 with
    | none=>simp [hc] at hr
    | some u=>rw [GP h n q.1 u hc];simpa only [hc] using hr
  | heap=>exact GW h _ _ _ _ _ hr
  | dyn=>
   simp only at hr ⊢
   cases hz:ax (first++(xs++cap)) with
   | true=>
    simp only [hz,ym] at hr ⊢
    cases hc:cf P L f n (first++(xs++cap)) with
    | none=>simp [hc] at hr
    | some u=>rw [GP h n _ u hc];simpa only [hc] using hr
   | false=>
    simp only [hz,yu] at hr ⊢;exact GW h _ _ _ _ _ hr
 ·split at hr
  ·exact Ly h _ _ _ _ _ hr
  ·exact Ly h _ _ _ _ _ hr
  ·simp at hr
 ·simp at hr
def M7 (h:Le f g) (tm:Env) (hp:Hp) (ct:Nat) (o:Op) (r:AV×Hp×Nat) (hr:aY P L f tm hp ct o=some r):aY P L g tm hp ct o=some r:=by
 unfold aY at hr ⊢
 split at hr
 ·exact LO h _ _ _ _ _ _ hr
 ·rename_i rs fv xs
  (try simp only at hr ⊢)
  cases hc:cw P L f hp ct .dyn (ao tm fv) (cx tm xs) with
  | none=>simp [hc] at hr
  | some q=>rw [LO h _ _ _ _ _ _ hc];simpa only [hc] using hr
 all_goals simpa only using hr
def Dx (h:Le f g):∀(ops:List aR) (s s':St),cN P L f ops s=some s'->cN P L g ops s=some s'
 | [],s,s',hr=>by simpa only [cN] using hr
 | ⟨d,gd,o⟩::r,s,s',hr=>by
  simp only [cN] at hr ⊢
  split at hr
  ·rename_i hw
   try simp only [hw]
   cases ho:aY P L f s.tm s.hp s.ct o with
   | none=>simp [ho] at hr
   | some q=>rw [M7 h _ _ _ _ _ ho];simp only [ho] at hr ⊢;exact Dx h r _ _ hr
  ·rename_i hw
   (try simp only [hw]);exact Dx h r _ _ hr
  ·simp at hr
def ll (h:Le f g):∀(c:VC) (s:St) (r:Ex×St),bh P L f c s=some r->bh P L g c s=some r
 | .skip,s,r,hr=>by simpa only [bh] using hr
 | .aB ops,s,r,hr=>by
  simp only [bh] at hr ⊢
  cases ho:cN P L f ops s with
  | none=>simp [ho] at hr
  | some s'=>rw [Dx h _ _ _ ho];simpa only [ho] using hr
 | .seq a b,s,r,hr=>by
  simp only [bh] at hr ⊢
  cases ha:bh P L f a s with
  | none=>simp [ha] at hr
  | some q=>
   rw [ll h a s q ha];obtain ⟨ex,s1⟩:=q
   cases ex with
   | normal=>simp only [ha] at hr ⊢;exact ll h b s1 r hr
   | ret=>simpa only [ha] using hr
   | exit id=>simpa only [ha] using hr
 | .cond x a b,s,r,hr=>by
  simp only [bh] at hr ⊢
  split at hr
  ·rename_i t ht
   try simp only [ht]
   cases t with
   | true=>simp only [ym] at hr ⊢;exact ll h a s r hr
   | false=>simp only [yu] at hr ⊢;exact ll h b s r hr
  ·simp at hr
 | .aw id a,s,r,hr=>by
  simp only [bh] at hr ⊢
  cases ha:bh P L f a s with
  | none=>simp [ha] at hr
  | some q=>rw [ll h a s q ha];simpa only [ha] using hr
 | .kp live,s,r,hr=>by simpa only [bh] using hr
 | .fz ts,s,r,hr=>by simpa only [bh] using hr
 | .loop live a,s,r,hr=>by
  simp only [bh] at hr ⊢
  cases ha:bh P L f a (bw live s) with
  | none=>simp [ha] at hr
  | some q=>
   rw [ll h a _ q ha];obtain ⟨ex,s1⟩:=q
   cases ex with
   | normal=>simp only [ha] at hr ⊢;exact h _ _ _ hr
   | ret=>simpa only [ha] using hr
   | exit id=>simpa only [ha] using hr
 | .rf fv ps as_ body,s,r,hr=>by
  simp only [bh] at hr ⊢
  split at hr
  ·rename_i n first cap hx
   try simp only [hx]
   split at hr
   ·simp at hr
   ·rename_i hL
    try simp only [hL]
    cases hc:fA P L f ((s.ct,.lp s.tm ps as_ body 0 .none)::s.hp) (s.ct+1) n (first++(.fn (.y s.ct) [] []::cap)) with
    | none=>simp [hc] at hr
    | some q=>rw [GW h _ _ _ _ _ hc];simpa only [hc] using hr
  ·simp at hr
 | .exit id,s,r,hr=>by simpa only [bh] using hr
 | .ret,s,r,hr=>by simpa only [bh] using hr
end
def Eh (P:aA) (L:Lib) (c:VC) (s:St):ev P L 0 c s=none:=rfl
def A6 (P:aA) (L:Lib) (n:Nat):ev P L (n+1)=bh P L (ev P L n):=rfl
def RX (P:aA) (L:Lib):∀n,Le (ev P L n) (ev P L (n+1))
 | 0=>fun c s r h=>by rw [Eh] at h;cases h
 | n+1=>fun c s r h=>by
  rw [A6] at h ⊢;exact ll (RX P L n) c s r h
def Iz (P:aA) (L:Lib) {n m:Nat} (h:n<=m):Le (ev P L n) (ev P L m):=by
 induction h with
 | refl=>exact fun _ _ _ h=>h
 | step _ ih=>exact fun c s r hr=>RX P L _ c s r (ih c s r hr)
end
section
open Go
section
variable {O:aZ} {self:bZ}
def dG.none {m:Mp} {S:Nat->Prop} {w:yg} {s s':St} {ex:Ex} {n lo:Nat} {a:Act} {w':yg} (l:Nat):¬dG O m S w s ex s' n lo (.goto l) a w':=by
 rintro ⟨h,_⟩;cases ex<;>cases h
def dG.then {m m1:Mp} {S S1:Nat->Prop} {w w1:yg} {s s1 s2:St} {ex:Ex} {n lo:Nat} {a':Act} {w':yg} {e:vT} {ex1:Ex} (h1:s1.base=s.base)
  (hf:bH m S w s.hp m1 S1 w1 s1.hp s.base) (h:dG O m1 S1 w1 s1 ex s2 n lo e a' w'):dG O m S w s ex s2 n lo e a' w':=by
 obtain ⟨h2,m',S',k1,k2,k3,k4,k5,k6,k7⟩:=h;rw [h1] at k3 k4 k5;exact ⟨h2,m',S',k1,k2,k3,k4,hf.trans k5,k6,k7⟩
def dG.cz {m:Mp} {S:Nat->Prop} {w:yg} {s s1:St} {n lo:Nat} {a':Act} {w':yg} {e:vT} {ex:Ex} (live:List Nat) (h:dG O m S w s ex s1 n lo e a' w'):dG O m S w s ex (bw live s1) n lo e a' w':=by
 obtain ⟨h2,m',S',k1,k2,k3,k4,k5,k6,k7⟩:=h;obtain ⟨m2,g1,g2,g3,g4,g5⟩:=G9 (live:=live) k1 k2 (by rw [k3];exact k4)
 rw [k3] at g3 g4 g5;exact ⟨h2,m2,S',g1,g2,g3,g4,k5.trans g5,k6,qw k2 g5 k7⟩
def RY {m:Mp} {w:yg} {tmps:Array ye}:∀{ts:List Nat} {s s1:St} {S:Nat->Prop},bJ O m S w s.tm tmps->aH O m S w s.hp s.ct->kA ts s=some s1->
  ∃S1,bJ O m S1 w s1.tm tmps/\aH O m S1 w s1.hp s1.ct/\s1.base=s.base/\s1.ct=s.ct/\∀base,bH m S w s.hp m S1 w s1.hp base
 | [],s,s1,S,ht,hh,h=>by
  simp only [kA,yb] at h;subst h;exact ⟨S,ht,hh,rfl,rfl,fun _=>bH.refl⟩
 | t::r,s,s1,S,ht,hh,h=>by
  simp only [kA] at h
  cases hz:freeze deep s.hp (ah s.tm t) with
  | none=>simp [hz] at h
  | some q=>
   obtain ⟨v,hp⟩:=q;simp only [hz] at h;obtain ⟨h1,h2,h3⟩:=Hr (O:=O) hz;have hg:fj s.hp s.ct hp s.ct:=⟨h1,yC _,fun id o ho=>(by
     have:=h2 id
     rw [ho] at this
     cases hq:aj s.hp id with
     | none=>rw [hq] at this;simp at this
     | some o'=>exact hh.aU id o' hq),fun id o ho _=>(by
     have:=h2 id
     rw [ho] at this
     cases hq:aj s.hp id with
     | none=>rw [hq] at this;simp at this
     | some o'=>exact ⟨o',rfl⟩)⟩
   obtain ⟨S',k1,k2,k3,k4⟩:=DY hh hg;have og:bJ O m S' w ((t,v)::s.tm) tmps:=by
    intro i;simp only [ah]
    cases hb:yq t i with
    | true=>
     have:=yk hb
     subst this;exact (h3 hp m S' w s.ct cr.refl k1).1 _ (iN (fun _ _ h=>h) k2 (fun _ _=>rfl) _ _ (ht t))
    | false=>
     exact iN (fun _ _ h=>h) k2 (fun _ _=>rfl) _ _ (ht i)
   obtain ⟨S1,g1,g2,g3,g4,g5⟩:=RY (s:={s with tm:=(t,v)::s.tm,hp:=hp}) og k1 h;exact ⟨S1,g1,g2,g3,g4,fun base=>(k4 base).trans (g5 base)⟩
def acq (hO:dX O) (n:Nat) (hC:∀k,k<=n->jA O (ev O.prog O.aI k)) (h:Nat):∀(c:vz) (l k:Nat) (j:Nat),j<=n->∀(s:St) (ex:Ex) (s':St),
  bh O.prog O.aI (ev O.prog O.aI j) (comp O.P (O.hint h) c l k).1 s=some (ex,s')->rm O h c s ex s':=by
 have refl:∀{s:St} {ex:Ex} {m:Mp} {S:Nat->Prop} {w:yg} {a:Act} {lo:Nat},bJ O m S w s.tm a.tmps->aH O m S w s.hp s.ct->s.base<=s.ct->Marks lo S w a.defers->dG O m S w s ex s a.tmps.size lo (lO ex) a w:=
  fun h1 h2 h3 h4=>⟨rfl,_,_,h1,h2,rfl,h3,bH.refl,rfl,h4⟩
 have JA:∀{self:bZ} {s:St} {r:Ex×St},bh O.prog O.aI self (.aB [⟨none,none,bad⟩]) s=some r->False:=by
  intro self s r hv;simp [bh,cN,bad,aY,cw,ao] at hv
 intro c
 induction c with
 | skip=>
  intro l k j hj s ex s' hv ro lo m S w a cD ht hh hb hn b5 en bW;simp only [comp,bh,yb,yi] at hv;obtain ⟨rfl,rfl⟩:=hv;exact wpIn_skip (refl ht hh hb bW)
 | label x=>
  intro l k j hj s ex s' hv ro lo m S w a cD ht hh hb hn b5 en bW;simp only [comp,bh,yb,yi] at hv;obtain ⟨rfl,rfl⟩:=hv;exact wpIn_label (refl ht hh hb bW)
 | exit id=>
  intro l k j hj s ex s' hv ro lo m S w a cD ht hh hb hn b5 en bW;simp only [comp,bh,yb,yi] at hv;obtain ⟨rfl,rfl⟩:=hv
  exact wpIn_exit (refl (ex:= .exit id) ht hh hb bW)
 | ret=>
  intro l k j hj s ex s' hv ro lo m S w a cD ht hh hb hn b5 en bW;simp only [comp,bh,yb,yi] at hv;obtain ⟨rfl,rfl⟩:=hv
  exact wpIn_ret (refl (ex:= .ret) ht hh hb bW)
 | goto x=>intro l k j hj s ex s' hv;exact (JA (by simpa only [comp] using hv)).elim
 | refuse x=>intro l k j hj s ex s' hv;exact (JA (by simpa only [comp] using hv)).elim
 | region id ops d=>
  intro l k j hj s ex s' hv;simp only [comp] at hv;generalize hq:D9 O.P (O.hint h) ops d k=q at hv;obtain ⟨r,k'⟩:=q;have main:∀{s s':St} {ex:Ex},bh O.prog O.aI (ev O.prog O.aI j) (.aB r) s=some (ex,s')->rm O h (.region id ops d) s ex s':=by
   intro s s' ex hv;simp only [bh] at hv
   cases ho:cN O.prog O.aI (ev O.prog O.aI j) r s with
   | none=>simp [ho] at hv
   | some s1=>
    simp only [ho,yb,yi] at hv;obtain ⟨rfl,rfl⟩:=hv;exact aez hO (hC j hj) h id ops d k (by rw [hq];exact ho)
  simp only at hv
  split at hv
  ·exact main hv
  ·rename_i t ts _;simp only [bh] at hv
   cases hf:kA (t::ts) s with
   | none=>simp [hf] at hv
   | some s1=>
    simp only [hf] at hv;intro ro lo m S w a cD ht hh hb hn b5 en bW;obtain ⟨S1,g1,g2,g3,g4,g5⟩:=RY ht hh hf;have h1:=main (s:=s1) (by simpa only [bh] using hv) ro lo m S1 w a cD g1 g2 (by rw [g3,g4];exact hb) hn b5 en (qw hh (g5 s.base) bW)
    refine wpIn_mono h1 (fun e a' w' hp=>?_)
    exact dG.then (ex1:= .normal) g3 (g5 s.base) hp
 | seq x y ihx ihy=>
  intro l k j hj s ex s' hv ro lo m S w a cD ht hh hb hn b5 en bW;simp only [comp] at hv;generalize mX:comp O.P (O.hint h) x l k=qx at hv;obtain ⟨x',l1,k1⟩:=qx;simp only at hv;generalize CJ:comp O.P (O.hint h) y l1 k1=qy at hv;obtain ⟨y',l2,k2⟩:=qy;simp only [bh] at hv
  cases hx:bh O.prog O.aI (ev O.prog O.aI j) x' s with
  | none=>simp [hx] at hv
  | some r=>
   obtain ⟨ex1,s1⟩:=r;have h1:=ihx l k j hj s ex1 s1 (by rw [mX];exact hx) ro lo m S w a cD ht hh hb hn b5 en bW
   refine wpIn_seq (wpIn_mono h1 ?_);rintro e a1 w1 ⟨rfl,m1,S1,g1,g2,g3,g4,g5,g6,g7⟩;have stop:ex1≠.normal->ex=ex1/\s'=s1:=by
    intro fZ;rw [hx] at hv
    cases ex1 with
    | normal=>exact absurd rfl fZ
    | ret=>simp only [yb,yi] at hv;exact ⟨hv.1.symm,hv.2.symm⟩
    | exit id=>simp only [yb,yi] at hv;exact ⟨hv.1.symm,hv.2.symm⟩
   cases ex1 with
   | normal=>
    simp only [hx] at hv;simp only [lO,Exit.then];have h2:=ihy l1 k1 j hj s1 ex s' (by rw [CJ];exact hv) ro lo m1 S1 w1 a1 (Hz g5 cD) g1 g2 (by rw [g3];exact g4) (by rw [g6];exact hn) b5 (xz en g5.size) g7
    rw [g6] at h2
    exact wpIn_mono h2 (fun e a' w' hp=>dG.then (ex1:= .normal) g3 g5 hp)
   | ret=>
    obtain ⟨rfl,rfl⟩:=stop (by simp);exact ⟨rfl,m1,S1,g1,g2,g3,g4,g5,g6,g7⟩
   | exit id=>
    obtain ⟨rfl,rfl⟩:=stop (by simp);exact ⟨rfl,m1,S1,g1,g2,g3,g4,g5,g6,g7⟩
 | cond x p q ihp ihq=>
  intro l k j hj s ex s' hv ro lo m S w a cD ht hh hb hn b5 en bW;simp only [comp] at hv;generalize mX:comp O.P (O.hint h) p (l+1) k=qx at hv;obtain ⟨p',l1,k1⟩:=qx;simp only at hv;generalize CJ:comp O.P (O.hint h) q l1 k1=qy at hv;obtain ⟨q',l2,k2⟩:=qy;simp only at hv;have main:∀(ex:Ex) (s':St),bh O.prog O.aI (ev O.prog O.aI j) (.cond (aF (O.hint h) x) p' q') s=some (ex,s')->(Code.cond x p q).wpIn (WF ro) 0 O.P (dG O m S w s ex s' a.tmps.size lo) a w:=by
   intro ex s' hv;simp only [bh] at hv;have rx:=bN (hO.hint h) ht x
   split at hv
   ·rename_i t hx;rw [hx] at rx;simp only [af] at rx
    cases t with
    | true=>
     simp only [ym] at hv;exact wpIn_cond_true rx (ihp (l+1) k j hj s ex s' (by rw [mX];exact hv) ro lo m S w a cD ht hh hb hn b5 en bW)
    | false=>
     simp only [yu] at hv;exact wpIn_cond_false rx (ihq l1 k1 j hj s ex s' (by rw [CJ];exact hv) ro lo m S w a cD ht hh hb hn b5 en bW)
   ·cases hv
  cases mH:(O.hint h).out l with
  | none=>rw [mH] at hv;exact main ex s' hv
  | some live=>
   rw [mH] at hv;simp only at hv;rw [show bh O.prog O.aI (ev O.prog O.aI j) (.seq (.cond (aF (O.hint h) x) p' q') (.kp live)) s=match bh O.prog O.aI (ev O.prog O.aI j) (.cond (aF (O.hint h) x) p' q') s with | some (.normal,s1)=>some (.normal,bw live s1) | r=>r from rfl] at hv
   cases hx:bh O.prog O.aI (ev O.prog O.aI j) (.cond (aF (O.hint h) x) p' q') s with
   | none=>simp [hx] at hv
   | some r=>
    obtain ⟨ex1,s1⟩:=r;have h1:=main ex1 s1 hx;rw [hx] at hv
    cases ex1 with
    | normal=>
     simp only [yb,yi] at hv;obtain ⟨rfl,rfl⟩:=hv;exact wpIn_mono h1 (fun e a' w' hp=>dG.cz live hp)
    | ret=>simp only [yb,yi] at hv;obtain ⟨rfl,rfl⟩:=hv;exact h1
    | exit id=>simp only [yb,yi] at hv;obtain ⟨rfl,rfl⟩:=hv;exact h1
 | block id x ih=>
  intro l k j hj s ex s' hv ro lo m S w a cD ht hh hb hn b5 en bW;simp only [comp] at hv;generalize mX:comp O.P (O.hint h) x l k=qx at hv;obtain ⟨x',r⟩:=qx;simp only at hv;have main:∀(ex:Ex) (s':St),bh O.prog O.aI (ev O.prog O.aI j) (.aw id x') s=some (ex,s')->(Code.block id x).wpIn (WF ro) 0 O.P (dG O m S w s ex s' a.tmps.size lo) a w:=by
   intro ex s' hv;simp only [bh] at hv
   cases hx:bh O.prog O.aI (ev O.prog O.aI j) x' s with
   | none=>simp [hx] at hv
   | some q=>
    obtain ⟨ex1,s1⟩:=q;have h1:=ih l k j hj s ex1 s1 (by rw [mX];exact hx) ro lo m S w a cD ht hh hb hn b5 en bW
    refine wpIn_block (wpIn_mono h1 ?_);rintro e a1 w1 ⟨rfl,g⟩
    cases ex1 with
    | normal=>
     simp only [hx,yb,yi] at hv;obtain ⟨rfl,rfl⟩:=hv;exact ⟨rfl,g⟩
    | ret=>
     simp only [hx,yb,yi] at hv;obtain ⟨rfl,rfl⟩:=hv;exact ⟨rfl,g⟩
    | exit i=>
     simp only [hx] at hv
     cases FY:yq i id with
     | true=>
      rw [FY] at hv;simp only [ym,yb,yi] at hv;obtain ⟨rfl,rfl⟩:=hv
      have:=yk FY
      subst this;simp only [lO,Exit.inBlock,yQ];exact ⟨rfl,g⟩
     | false=>
      rw [FY] at hv;simp only [yu,yb,yi] at hv;obtain ⟨rfl,rfl⟩:=hv;have fZ:i≠id:=fun e=>by subst e;simp at FY
      simp only [lO,Exit.inBlock,fZ,yG];exact ⟨rfl,g⟩
  have ag4:∀live:List Nat,bh O.prog O.aI (ev O.prog O.aI j) (.seq (.aw id x') (.kp live)) s=some (ex,s')->(Code.block id x).wpIn (WF ro) 0 O.P (dG O m S w s ex s' a.tmps.size lo) a w:=by
   intro live hv;rw [show bh O.prog O.aI (ev O.prog O.aI j) (.seq (.aw id x') (.kp live)) s=match bh O.prog O.aI (ev O.prog O.aI j) (.aw id x') s with | some (.normal,s1)=>some (.normal,bw live s1) | r=>r from rfl] at hv
   cases hx:bh O.prog O.aI (ev O.prog O.aI j) (.aw id x') s with
   | none=>simp [hx] at hv
   | some r=>
    obtain ⟨ex1,s1⟩:=r;have h1:=main ex1 s1 hx;rw [hx] at hv
    cases ex1 with
    | normal=>
     simp only [yb,yi] at hv;obtain ⟨rfl,rfl⟩:=hv;exact wpIn_mono h1 (fun e a' w' hp=>dG.cz live hp)
    | ret=>simp only [yb,yi] at hv;obtain ⟨rfl,rfl⟩:=hv;exact h1
    | exit id=>simp only [yb,yi] at hv;obtain ⟨rfl,rfl⟩:=hv;exact h1
  split at hv
  ·exact ag4 _ hv
  ·exact main ex s' hv
 | loop x ih=>
  intro l k j hj s ex s' hv;simp only [comp] at hv;generalize mX:comp O.P (O.hint h) x (l+1) k=qx at hv;obtain ⟨x',r⟩:=qx;simp only at hv;have rounds:∀(j:Nat),j<=n->∀(s:St) (ex:Ex) (s':St),bh O.prog O.aI (ev O.prog O.aI j) (.loop ((O.hint h).live l) x') s=some (ex,s')->∃K,∀(ro:Option Nat) (lo:Nat) (m:Mp) (S:Nat->Prop) (w:yg) (a:Act),oW ro w->bJ O m S w s.tm a.tmps->aH O m S w s.hp s.ct->s.base<=s.ct->(O.hint h).n<=a.tmps.size->O.w0.heap.size<=lo->lo<=w.heap.size->Marks lo S w a.defers->
    Code.roundsIn (WF ro) 0 O.P x (dG O m S w s ex s' a.tmps.size lo) K a w:=by
   intro j
   induction j with
   | zero=>
    intro hj s ex s' hv;simp only [bh] at hv
    cases hx:bh O.prog O.aI (ev O.prog O.aI 0) x' (bw ((O.hint h).live l) s) with
    | none=>simp [hx] at hv
    | some q=>
     obtain ⟨ex1,s1⟩:=q;have stop:ex1≠.normal->ex=ex1/\s'=s1:=by
      intro fZ;rw [hx] at hv
      cases ex1 with
      | normal=>exact absurd rfl fZ
      | ret=>simp only [yb,yi] at hv;exact ⟨hv.1.symm,hv.2.symm⟩
      | exit id=>simp only [yb,yi] at hv;exact ⟨hv.1.symm,hv.2.symm⟩
     refine ⟨1,fun ro lo m S w a cD ht hh hb hn b5 en bW=>?_⟩;rw [roundsIn_succ];obtain ⟨m1,c1,c2,c3,c4,c5⟩:=G9 (live:=(O.hint h).live l) ht hh hb;have h1:=ih (l+1) k 0 hj _ ex1 s1 (by rw [mX];exact hx) ro lo m1 S w a cD c1 c2 (by rw [c3];exact c4) hn b5 en bW
     refine wpIn_mono h1 ?_;rintro e a1 w1 hp;have ai:=dG.then (O:=O) (m:=m) (S:=S) (w:=w) (s:=s) (ex1:= .normal) c3 c5 hp;obtain ⟨rfl,_⟩:=hp
     cases ex1 with
     | normal=>simp only [hx,Eh] at hv;cases hv
     | ret=>obtain ⟨rfl,rfl⟩:=stop (by simp);exact ai
     | exit id=>obtain ⟨rfl,rfl⟩:=stop (by simp);exact ai
   | succ j ihj=>
    intro hj s ex s' hv;simp only [bh] at hv
    cases hx:bh O.prog O.aI (ev O.prog O.aI (j+1)) x' (bw ((O.hint h).live l) s) with
    | none=>simp [hx] at hv
    | some q=>
     obtain ⟨ex1,s1⟩:=q;have stop:ex1≠.normal->ex=ex1/\s'=s1:=by
      intro fZ;rw [hx] at hv
      cases ex1 with
      | normal=>exact absurd rfl fZ
      | ret=>simp only [yb,yi] at hv;exact ⟨hv.1.symm,hv.2.symm⟩
      | exit id=>simp only [yb,yi] at hv;exact ⟨hv.1.symm,hv.2.symm⟩
     have more:∃K,ex1= .normal->∀(ro:Option Nat) (lo:Nat) (m:Mp) (S:Nat->Prop) (w:yg) (a:Act),oW ro w->bJ O m S w s1.tm a.tmps->aH O m S w s1.hp s1.ct->s1.base<=s1.ct->(O.hint h).n<=a.tmps.size->O.w0.heap.size<=lo->lo<=w.heap.size->Marks lo S w a.defers->
       Code.roundsIn (WF ro) 0 O.P x (dG O m S w s1 ex s' a.tmps.size lo) K a w:=by
      cases ex1 with
      | normal=>
       rw [hx] at hv;have ju:ev O.prog O.aI (j+1) (.loop ((O.hint h).live l) x') s1=some (ex,s'):=hv;rw [A6] at ju;obtain ⟨K,hK⟩:=ihj (by omega) s1 ex s' ju;exact ⟨K,fun _=>hK⟩
      | ret=>exact ⟨0,fun h=>by cases h⟩
      | exit id=>exact ⟨0,fun h=>by cases h⟩
     obtain ⟨K,hK⟩:=more;refine ⟨K+1,fun ro lo m S w a cD ht hh hb hn b5 en bW=>?_⟩;rw [roundsIn_succ];obtain ⟨m1,c1,c2,c3,c4,c5⟩:=G9 (live:=(O.hint h).live l) ht hh hb;have h1:=ih (l+1) k (j+1) hj _ ex1 s1 (by rw [mX];exact hx) ro lo m1 S w a cD c1 c2 (by rw [c3];exact c4) hn b5 en bW
     refine wpIn_mono h1 ?_;rintro e a1 w1 hp;have ai:=dG.then (O:=O) (m:=m) (S:=S) (w:=w) (s:=s) (ex1:= .normal) c3 c5 hp;obtain ⟨rfl,_⟩:=hp
     cases ex1 with
     | normal=>
      simp only [lO,Exit.then];obtain ⟨_,m2,S2,g1,g2,g3,g4,g5,g6,g7⟩:=ai;have h2:=hK rfl ro lo m2 S2 w1 a1 (Hz g5 cD) g1 g2 (by rw [g3];exact g4) (by rw [g6];exact hn) b5 (xz en g5.size) g7
      rw [g6] at h2;revert h2;generalize hA:a.tmps.size=sz;intro h2;have step:∀(K:Nat) (a':Act) (w':yg),Code.roundsIn (WF ro) 0 O.P x (dG O m2 S2 w1 s1 ex s' sz lo) K a' w'->Code.roundsIn (WF ro) 0 O.P x (dG O m S w s ex s' sz lo) K a' w':=by
       intro K
       induction K with
       | zero=>intro a' w' pW;exact pW
       | succ K ihK=>
        intro a' w' pW;rw [roundsIn_succ] at pW ⊢;refine wpIn_mono pW (fun e a'' rU hq=>?_)
        cases e with
        | normal=>exact ihK a'' rU hq
        | exit id=>exact dG.then (ex1:= .normal) g3 g5 hq
        | goto x=>exact dG.then (ex1:= .normal) g3 g5 hq
        | ret=>exact dG.then (ex1:= .normal) g3 g5 hq
        | panic x=>exact dG.then (ex1:= .normal) g3 g5 hq
        | outgrown=>exact dG.then (ex1:= .normal) g3 g5 hq
      exact step K a1 w1 h2
     | ret=>obtain ⟨rfl,rfl⟩:=stop (by simp);exact ai
     | exit id=>obtain ⟨rfl,rfl⟩:=stop (by simp);exact ai
  obtain ⟨K,hK⟩:=rounds j hj s ex s' hv;intro ro lo m S w a cD ht hh hb hn b5 en bW;exact wpIn_loop_rounds K (hK ro lo m S w a cD ht hh hb hn b5 en bW)
 | scope x ih=>
  intro l k j hj s ex s' hv ro lo m S w a cD ht hh hb hn b5 en bW;simp only [comp] at hv;exact XL (ih l k j hj s ex s' hv ro lo m S w a cD ht hh hb hn b5 en bW) (fun l a w=>dG.none l)
 | rangeFunc f ps as_ body iha ihb=>
  intro l k j hj s ex s' hv;simp only [comp] at hv;generalize mX:comp O.P (O.hint h) as_ l k=qx at hv;obtain ⟨x',l1,k1⟩:=qx;simp only at hv;generalize CJ:comp O.P (O.hint h) body l1 k1=qy at hv;obtain ⟨y',l2,k2⟩:=qy;simp only at hv
  cases ha:nG (O.hint h).n ps.toList with
  | false=>rw [ha] at hv;exact (JA hv).elim
  | true=>
   rw [ha] at hv;exact ag3 hO (hC j hj) ⟨l,k,by rw [mX]⟩ ⟨l1,k1,by rw [CJ]⟩ ha hv
end
end
section
open Go
section
variable {O:aZ} {m:Mp} {S:Nat->Prop} {w:yg}
def M8:∀(vals:List AV) (j i:Nat),ah (eE j vals) (j+i)=vals.getD i .undef
 | [],j,i=>by simp [eE,ah]
 | v::r,j,i=>by
  cases i with
  | zero=>simp [eE,ah]
  | succ i=>
   simp only [eE,ah];have hb:yq j (j+(i+1))=false:=by
    cases hq:yq j (j+(i+1)) with
    | false=>rfl
    | true=>have:=yk hq;omega
   rw [hb,show j+(i+1)=j+1+i by omega];rw [M8 r (j+1) i]
   simp
def YP {vals:List AV} {args:Array ye} (n:Nat) (h:ak O.ae m S w vals args.toList):bJ O m S w (eE 0 vals) (args++wN n undef):=by
 intro i
 have:=M8 vals 0 i
 rw [yy] at this;rw [this,List.getD_eq_getElem?_getD]
 cases hv:vals[i]? with
 | none=>simp only [Option.getD_none,af]
 | some v=>
  obtain ⟨u,h1,h2⟩:=HT h hv;have hl:i<args.size:=by
   grind
  have:(args++wN n undef).getD i undef=u:=by
   rw [wj,Array.getElem?_append_left hl]
   grind
  grind
def zC (tmps:Array ye):yaD->Sem ye
 | .tmp t=>pure (tmps.getD t undef)
 | .cell a t=>do loadVar t (<-asAddr (tmps.getD a undef))
def XM (fn:uN) (tmps:Array ye):results fn tmps=(do let vs <-fn.results.mapM (zC tmps);pure (if h:vs.size=1 then vs[0] else .tuple vs)):=by
 rfl
def Hb {s:St} {ct:Nat} {tmps:Array ye} (hh:aH O m S w s.hp ct) (ht:bJ O m S w s.tm tmps):∀{rs:List yaD} {rv:List RV} {vs:List AV},j0 O.P rs=some rv->ir s rv=some vs->
  ∃us,(rs.mapM (zC tmps)).run O.P w= .ok us w/\ak O.ae m S w vs us
 | [],rv,vs,h1,h2=>by
  simp only [j0,yb] at h1;subst h1;simp only [ir,yb] at h2;subst h2;exact ⟨[],by simp,by simp [ak]⟩
 | .tmp t::rs,rv,vs,h1,h2=>by
  simp only [j0] at h1
  cases hc:j0 O.P rs with
  | none=>simp [hc] at h1
  | some l=>
   simp only [hc,yb] at h1;subst h1;simp only [ir,results1] at h2
   cases hl:ir s l with
   | none=>simp [hl] at h2
   | some JY=>
    simp only [hl,yb] at h2;subst h2;obtain ⟨us,g1,g2⟩:=Hb hh ht hc hl;refine ⟨tmps.getD t undef::us,?_,by simp only [ak];exact ⟨_,_,rfl,ht t,g2⟩⟩
    rw [wW];simp only [zC,Sem.run_bind,Sem.run_pure,Result.andThen_ok];rw [g1];rfl
 | .cell a t::rs,rv,vs,h1,h2=>by
  simp only [j0] at h1
  cases hz:bQ O.P t with
  | none=>simp [hz] at h1
  | some sz=>
   cases CK:cQ O.P t with
   | none=>simp [hz,CK] at h1
   | some ag=>
    cases hc:j0 O.P rs with
    | none=>simp [hz,CK,hc] at h1
    | some l=>
     simp only [hz,CK,hc,yb] at h1;subst h1;simp only [ir] at h2
     cases bG:results1 s (.cell a sz ag) with
     | none=>simp [bG] at h2
     | some v=>
      cases hl:ir s l with
      | none=>simp [bG,hl] at h2
      | some JY=>
       simp only [bG,hl,yb] at h2;subst h2;obtain ⟨us,g1,g2⟩:=Hb hh ht hc hl;have ra:=ht a;have key:∃b o u,tmps.getD a undef= .pointer (some ⟨b,o,none⟩)/\(loadVar t ⟨b,o,none⟩).run O.P w= .ok u w/\af O.ae m S w v u:=by
        simp only [results1] at bG;cases hta:ah s.tm a<;>rw [hta] at bG ra<;>simp only [reduceCtorEq] at bG
        ·rename_i id o;simp only [af] at ra;obtain ⟨p,hm,hp⟩:=ra
         cases hg:aj s.hp id with
         | none=>simp [hg] at bG
         | some ob=>
          cases ob<;>simp only [hg,reduceCtorEq] at bG
          have Kx:=HS (o:=0) (n:=0) hh hg hm;obtain ⟨u,q1,q2⟩:=Eb hz CK (mh o _ p.b p.o Kx) bG;exact ⟨p.b,p.o+o,u,hp,q1,q2⟩
        ·rename_i cs;simp only [af] at ra;obtain ⟨b,o,hp,_,_,Kx⟩:=ra;obtain ⟨u,q1,q2⟩:=Eb hz CK Kx bG;exact ⟨b,o,u,hp,q1,q2⟩
       obtain ⟨b,o,u,q1,q2,q3⟩:=key;refine ⟨u::us,?_,by simp only [ak];exact ⟨_,_,rfl,q3,g2⟩⟩
       rw [wW]
       have:(zC tmps (.cell a t)).run O.P w= .ok u w:=by
        simp only [zC];rw [q1];simp [asAddr,q2]
       rw [Sem.run_bind,this,Result.andThen_ok,Sem.run_bind,g1];rfl
def W7 {s:St} {ct:Nat} {tmps:Array ye} {fn:uN} {rv:List RV} {v:AV} (hh:aH O m S w s.hp ct) (ht:bJ O m S w s.tm tmps) (h1:j0 O.P fn.results.toList=some rv) (h2:fe s rv=some v):
  ∃u,(results fn tmps).run O.P w= .ok u w/\af O.ae m S w v u:=by
 unfold fe at h2
 cases hl:ir s rv with
 | none=>simp [hl] at h2
 | some vs=>
  obtain ⟨us,g1,g2⟩:=Hb hh ht h1 hl;have hlen:=fI _ _ g2;have hm:(fn.results.mapM (zC tmps)).run O.P w= .ok us.toArray w:=by
   rw [Array.mapM_eq_mapM_toList];simp [g1]
  have dR:(results fn tmps).run O.P w= .ok (if h:us.toArray.size=1 then us.toArray[0] else .tuple us.toArray) w:=by
   rw [XM,Sem.run_bind,hm];rfl
  rw [hl] at h2
  split at h2
  ·rename_i v' oh;simp only [yb] at oh h2;subst oh;simp only [ak] at g2
   grind
  ·rename_i cW fZ oh;simp only [yb] at oh h2;subst oh;subst h2;have h1:¬us.toArray.size=1:=by
    intro h
    have:vs.length=1:=by simp_all
    cases vs with
    | nil=>simp at this
    | cons x t=>
     cases t with
     | nil=>exact fZ x rfl
     | cons y t=>simp at this
   simp only [af]
   grind
  ·grind
def M9 {s:St} {tmps:Array ye} {fn:uN} {rv:List RV} {v:AV} {m0:Mp} {S0:Nat->Prop} {w0:yg} {hp0:Hp} {FZ:Nat} (h1:j0 O.P fn.results.toList=some rv) (h2:fe s rv=some v) (dU:FZ<=s.ct):∀(rs:List Nat) (w:yg),
  rs.Nodup->(∀r,r∈rs->w.heap[r]? =some (.deferred (some []))/\¬S r/\w0.heap.size<=r)->O.w0.heap.size<=w0.heap.size->aH O m S w s.hp s.ct->bJ O m S w s.tm tmps->bH m0 S0 w0 hp0 m S w s.hp FZ->
  yaG Fence.wide 0 O.P fn tmps (oN O m0 S0 w0 hp0 FZ v s.hp s.ct) (rs.map (fun r=>{target:= .collected r,args:=#[]})) .returning w
 | [],w,_,_,_,hh,ht,hf=>by
  obtain ⟨u,g1,g2⟩:=W7 hh ht h1 h2;exact ⟨u,g1,u,m,S,rfl,hh,dU,g2,hf⟩
 | r::rs,w,iF,hr,b5,hh,ht,hf=>by
  obtain ⟨eB,eC⟩:=List.nodup_cons.1 iF;obtain ⟨a1,a2,a3⟩:=hr r List.mem_cons_self;have fa:=sJ w r (.deferred none);have jS:¬cX m s.hp r:=fun ho=>NZ hh ho _ a1
  have pW:=Mi hh fa a2 jS (xz b5 a3)
  have aQ:eh S w {w with heap:=w.heap.setIfInBounds r (.deferred none)}:=fun b hb=>fa.other b (fun e=>a2 (e▸hb))
  have pN:bH m0 S0 w0 hp0 m S {w with heap:=w.heap.setIfInBounds r (.deferred none)} s.hp FZ:=by
   refine ⟨hf.os,hf.tape,hf.output,by rw [fa.size];exact hf.size,fun b hb ho=>(fa.other b (by omega)).trans (hf.same b hb ho),hf.sub,fun b hb=>(fa.other b (fun e=>a2 (e▸hf.sub b hb))).trans (hf.still b hb),hf.new,hf.own,hf.old,fun b x hb=>?_⟩
   obtain ⟨x',hx⟩:=hf.loops b x hb;exact ⟨x',(fa.other b (fun e=>by subst e;rw [a1] at hx;cases hx)).trans hx⟩
  refine ⟨by simp,.inl ⟨r,_,rfl,?_,M9 h1 h2 dU rs _ eC (fun r' dj=>?_) b5 pW (oJ (fun _ _ h=>h) (fun _ h=>h) aQ ht) pN⟩⟩
  ·simp only [Instr.takeDeferred,Sem.run_bind,Mj (P:=O.P) a1 (fun _ _ _=>by simp),Result.andThen_ok,Dw (P:=O.P) a1 (fun _ _ _=>by simp),Sem.run_pure]
  ·obtain ⟨b1,b2,b3⟩:=hr r' (List.mem_cons_of_mem _ dj);exact ⟨(fa.other r' (fun e=>eB (e▸dj))).trans b1,b2,b3⟩
end
section
variable {O:aZ} {self:bZ}
def ag5 (hO:dX O) (hS:∀v s ex s',self v s=some (ex,s')->∀c h l k,(comp O.P (O.hint h) c l k).1=v->rm O h c s ex s') {n:Nat} {F:av} (hF:O.prog n=some F) {hp:Hp} {ct:Nat} {vals:List AV} {ex:Ex} {s:St}
  (hv:self F.body ⟨eE 0 vals,hp,ct,ct⟩=some (ex,s)) (hex:ex= .normal\/ex= .ret) {v:AV} (hr:fe s F.bF=some v):rk O n hp ct vals v s.hp s.ct:=by
 intro m S w args hh fC;obtain ⟨fn,q1,q2,q3⟩:=hO.prog n F hF;obtain ⟨c,q4,q5,q6,q7⟩:=LN q2;refine .inl ⟨H5 q1 (by rw [q4];rfl) q3,?_⟩
 have hc:=hS _ _ _ _ hv c n 0 0 q5.symm;have hw:=hc none w.heap.size m S w {tmps:=args++wN (fn.ntmps-args.size) undef,defers:=[]} (fun l hl=>by cases hl) (YP _ fC) hh (yC _) (by simp;omega) hh.eG (yC _) ⟨[],rfl,by simp,by simp⟩
 refine callsIn_of_wp_marks (F:=Fence.wide) q1 q4 trivial (wpIn_mono hw ?_);rintro e a' w' ⟨rfl,m',S',k1,k2,k3,k4,k5,k6,rs,k7,k8,k9⟩;have main:yaG Fence.wide 0 O.P fn a'.tmps (oN O m S w hp ct v s.hp s.ct) a'.defers .returning w':=by
  rw [k7];exact M9 q6 hr k4 rs w' k8 k9 hh.eG k2 k1 k5
 rcases hex with rfl | rfl
 ·exact main
 ·exact main
def oS.mono {P:yM} {f:uM} {args:Array ye} {w:yg} {R R':Ending->yg->Prop} (h:oS P f args w R) (hr:∀e w',R e w'->R' e w'):oS P f args w R':=by
 rcases h with ⟨h1,h2⟩ | ⟨u,w',h1,h2⟩
 ·exact .inl ⟨h1,CallsIn.mono h2 hr⟩
 ·exact .inr ⟨u,w',h1,hr _ _ h2⟩
def YQ {w:yg} {S:Nat->Prop} (hg:o9 O w) (hs:∀b,S b->b<w.heap.size):aH O dD S w [] 0:=
 ⟨(fun id o p h _=>by simp [aj] at h),(fun id p h=>by cases h),(fun i j oi oj pi pj h=>by simp [aj] at h),hs,(fun id p h=>by cases h),(fun id p h=>by cases h),hg.1,hg.2,(fun id o h=>by simp [aj] at h)⟩
def H6 {b:Nat} (h:cX dD [] b):False:=by
 obtain ⟨_,_,_,h,_⟩:=h;simp [aj] at h
def Lz {n:Nat} {vals:List AV} {v r:AV} {s:St} (h:rk O n [] 0 vals v s.hp s.ct) (hr:result s.hp v=some r):dO O n vals r:=by
 intro w S args hg hs fC hp;refine oS.mono (h dD S w args (YQ hg hs) fC) ?_;rintro e w' ⟨u,m',S',rfl,k1,k2,k3,k4⟩;have b5:∀b,cX m' s.hp b->w.heap.size<=b:=fun b hb=>(k4.own b hb).elim (fun h=>(H6 h).elim) (fun h=>h)
 obtain ⟨S2,g1,g2,g3,g4⟩:=YG (lo:=w.heap.size) k1 hr k3 b5;refine ⟨u,S2,rfl,⟨k4.os,k4.tape,k4.output,k4.size,fun b hb=>k4.same b hb H6⟩,fun b hb=>g1 b (k4.sub b hb),fun b hb=>?_,g3,g4⟩;rcases g2 b hb with h | h
 ·rcases k4.new b h with h | h | h
  ·exact .inl h
  ·exact (H6 h).elim
  ·exact .inr h
 ·exact .inr (b5 b h)
def XN (hO:dX O) (hS:∀v s ex s',self v s=some (ex,s')->∀c h l k,(comp O.P (O.hint h) c l k).1=v->rm O h c s ex s'):jA O self:=by
 have heap:∀(n:Nat) (F:av),O.prog n=some F->∀(hp:Hp) (ct:Nat) (vals:List AV) (ex:Ex) (s:St) (v:AV),self F.body ⟨eE 0 vals,hp,ct,ct⟩=some (ex,s)->(ex= .normal\/ex= .ret)->fe s F.bF=some v->rk O n hp ct vals v s.hp s.ct:=
  fun n F hF hp ct vals ex s v h1 h2 h3=>ag5 hO hS hF h1 h2 h3
 refine ⟨?_,?_,fun hp ct l xs v ai aK hv=>aav hS hv⟩
 ·intro n vals r hv;unfold cf at hv
  cases hL:O.aI.pure n with
  | some sp=>rw [hL] at hv;exact hO.aI n sp vals r hL hv
  | none=>
   simp only [hL] at hv
   cases hF:O.prog n with
   | none=>simp [hF] at hv
   | some F=>
    simp only [hF] at hv
    split at hv
    ·rename_i s hb
     cases hr:fe s F.bF with
     | none=>simp [hr] at hv
     | some v=>simp only [hr] at hv;exact Lz (heap n F hF [] 0 vals .normal s v hb (.inl rfl) hr) hv
    ·rename_i s hb
     cases hr:fe s F.bF with
     | none=>simp [hr] at hv
     | some v=>simp only [hr] at hv;exact Lz (heap n F hF [] 0 vals .ret s v hb (.inr rfl) hr) hv
    ·cases hv
 ·intro hp ct n vals v ai aK hv;unfold fA at hv
  cases hL:O.aI.heap n with
  | some sp=>rw [hL] at hv;exact hO.Fc n sp hp ct vals v ai aK hL hv
  | none=>
   simp only [hL] at hv
   cases hF:O.prog n with
   | none=>simp [hF] at hv
   | some F=>
    grind
def W8 (hO:dX O):∀n,jA O (ev O.prog O.aI n):=by
 intro n
 induction n using Nat.strongRecOn with
 | _ n ih=>
  refine XN hO (fun v s ex s' hv c h l k hc=>?_)
  cases n with
  | zero=>rw [Eh] at hv;cases hv
  | succ n=>
   rw [A6,<-hc] at hv;exact acq hO n (fun k hk=>ih k (by omega)) h c l k n (yC _) s ex s' hv
def sound (hO:dX O) {n f:Nat} {vals:List AV} {r:AV} (h:JZ O.prog O.aI n f vals=some r):dO O f vals r:=(W8 hO n).pure f vals r h
end
end
end VE
