import Derived.LoopNIn
import Derived.RangeFuncIn
import Derived.Test.YtmedhadbdofioaaGreatDoorTaf
import Derived.Test.YtmedhadbdofioaaGreatDoorTaa
set_option linter.all false
set_option maxRecDepth 100000
open Array renaming getD_eq_getD_getElem?→wM,getElem?_eq_some_iff→xx,replicate→vm
open Bool renaming and_eq_true→yg
open Go renaming Code→wI,Deferred→yaZ,Exit→uz,Func→tn,FuncId→tk,LeavesInM→ybk,Loop→ud,Oper→yZ,Program→y6,ResultVar→ybi,Value→yf,World→yi
open List renaming mapM_cons→vC
open Nat renaming beq→yu,eq_of_beq_eq_true→yp,le_refl→yC,le_trans→xj,zero_add→yd,zero_le→yal
open Option renaming isSome_some→tr
open Option.some renaming injEq→yc
open Prod.mk renaming injEq→yk
namespace VE
section
open Go
def ajm {F:Fence} {n:Nat} {P:y6} {Q:uz->Act->yi->Prop} {a:Act} {w:yi} {c:wI} (h:c.wpIn F n P Q a w) (hg:∀l a w,¬Q (.goto l) a w):(Code.scope c).wpIn F n P Q a w:=by
 intro b k cs dh hb hr;have h0:(lone (b.atR a (.code (.scope c)::k)) cs w).fenced P F:=fenced_calm hb hr rfl;have s0:step P (lone (b.atR a (.code (.scope c)::k)) cs w)= .next (lone (b.atR a (.code c:: .inScope c::k)) cs w):=step_lone_go (by simp [stepG,stepG.exec,Frame.atR]);obtain ⟨e,a₁,w₁,hq,CY⟩:=h b (.inScope c::k) cs dh hb hr;have hx:∀id,exitTo id (.inScope c::k)=exitTo id k:=fun id=>by simp [exitTo]
 cases e with
 | normal=>
  have s1:step P (lone (b.atR a₁ (.inScope c::k)) cs w₁)= .next (lone (b.atR a₁ k) cs w₁):=step_lone_go (by simp [stepG,stepG.exec,Frame.atR]);exact ⟨.normal,a₁,w₁,hq,.head h0 s0 (StepsIn.trans CY (.one (fenced_calm hb hr rfl) s1))⟩
 | exit id=>
  exact ⟨.exit id,a₁,w₁,hq,fun k' hk=> .head h0 s0 (CY.1 k' (by rw [hx];exact hk)),fun bX hk=>let ⟨k₁,h1,h2⟩:=CY.2 bX (by rw [hx];exact hk);⟨k₁,h1,.head h0 s0 h2⟩⟩
 | goto l=>exact (hg _ _ _ hq).elim
 | ret=>exact ⟨_,a₁,w₁,hq,.of_steps (.one h0 s0) CY⟩
 | panic ch=>exact ⟨_,a₁,w₁,hq,.of_steps (.one h0 s0) CY⟩
 | outgrown=>exact ⟨_,a₁,w₁,hq,.of_steps (.one h0 s0) CY⟩
def qC:Ex->uz
 | .normal=> .normal
 | .ret=> .ret
 | .exit id=> .exit id
def Marks (lo:Nat) (S:Nat->Prop) (w:yi) (ds:List yaZ):Prop:=∃rs:List Nat,ds=rs.map (fun r=>{target:= .collected r,args:=#[]})/\rs.Nodup/\
 ∀r,r∈rs->w.heap[r]? =some (.deferred (some []))/\¬S r/\lo<=r
def zd (ro:Option Nat) (w:yi):Prop:=∀l,ro=some l->∃r:ud,w.heap[l]? =some (.loop r)
section
variable {O:bA} {m:Mp} {S:Nat->Prop} {w:yi} {hp:Hp} {ct:Nat}
def aao (hh:bf O m S w hp ct) {b:Nat} (h:eE m hp b):∀x,w.heap[b]?≠some (.deferred x):=by
 intro x hx;obtain ⟨id,o,p,h1,h2,rfl⟩:=h;have h3:=hh.obj id o p h1 h2
 cases o with
 | cells rw pu ex sz cs=>obtain ⟨q,arr,t,g1,g2,_⟩:=h3;rw [h2] at g1;injection g1 with g1;subst g1;rw [hx] at g2;cases g2
 | mp rw ks vs=>obtain ⟨q,es,clock,g1,g2,_⟩:=h3;rw [h2] at g1;injection g1 with g1;subst g1;rw [hx] at g2;cases g2
 | si s pos=>obtain ⟨q,t,g1,g2,_⟩:=h3;rw [h2] at g1;injection g1 with g1;subst g1;rw [hx] at g2;cases g2
 | lp tm ps as_ body st pe=>obtain ⟨q,l,hi,g1,g2,_⟩:=h3;rw [h2] at g1;injection g1 with g1;subst g1;rw [hx] at g2;cases g2
def AO (hh:bf O m S w hp ct) {m':Mp} {S':Nat->Prop} {w':yi} {ao:Hp} {base lo:Nat} (hf:cB m S w hp m' S' w' ao base) {ds:List yaZ} (h:Marks lo S w ds):Marks lo S' w' ds:=by
 obtain ⟨rs,h1,h2,h3⟩:=h;refine ⟨rs,h1,h2,fun r hr=>?_⟩;obtain ⟨this,h4,h5⟩:=h3 r hr;have bi:=(xx.1 this).1;have gW:¬eE m hp r:=fun ho=>aao hh ho _ this
 refine ⟨(hf.same r bi gW).trans this,fun hs=>?_,h5⟩;rcases hf.new r hs with h | h | h
 ·grind
 ·grind
 ·omega
def L5 {m':Mp} {S':Nat->Prop} {w':yi} {ao:Hp} {base:Nat} {ro:Option Nat} (hf:cB m S w hp m' S' w' ao base) (h:zd ro w):zd ro w':=fun l hl=>
 let ⟨r,hr⟩:=h l hl
 hf.loops l r hr
def eZ (O:bA) (m:Mp) (S:Nat->Prop) (w:yi) (s:St) (ex:Ex) (s':St) (n lo:Nat) (e:uz) (a':Act) (w':yi):Prop:=
 e=qC ex/\∃m' S',cw O m' S' w' s'.tm a'.tmps/\bf O m' S' w' s'.hp s'.ct/\s'.base=s.base/\s.base<=s'.ct/\cB m S w s.hp m' S' w' s'.hp s.base/\a'.tmps.size=n/\Marks lo S' w' a'.defers
def Bf (O:bA) (h:Nat) (c:wI) (s:St) (ex:Ex) (s':St):Prop:=
 ∀(ro:Option Nat) (lo:Nat) (m:Mp) (S:Nat->Prop) (w:yi) (a:Act),zd ro w->cw O m S w s.tm a.tmps->bf O m S w s.hp s.ct->s.base<=s.ct->(O.hint h).n<=a.tmps.size->O.w0.heap.size<=lo->lo<=w.heap.size->Marks lo S w a.defers->
  c.wpIn (WF ro) 0 O.P (eZ O m S w s ex s' a.tmps.size lo) a w
structure eP (O:bA):Prop where
 hint:∀h,fT O (O.hint h)
 mixed:O.P.follows .mixedOrders=true
 prog:∀n F,O.prog n=some F->∃fn,O.P.funcs[O.ai n]? =some fn/\Ey O.P (O.hint n) fn=some F/\fn.name≠ "runtime.NumGoroutine"
 aU:∀n sp vals r,O.aU.pure n=some sp->sp vals=some r->eX O n vals r
 E8:∀n sp hp ct vals v ao bg,O.aU.heap n=some sp->sp hp ct vals=some (v,ao,bg)->Be O n hp ct vals v ao bg
def Mo {P:y6} {H:Hint} {ops:Array yZ}:∀(rs:List bn) (l:List yZ) (done:List bn) (ms:List Nat),mU P H ops rs l->mU P H ops (zo done rs ms) l
 | [],l,done,ms,h=>by
  cases ms<;>simpa only [zo] using h
 | r::rs,[],done,ms,h=>by simp [mU] at h
 | r::rs,o::l,done,[],h=>by
  obtain ⟨d,g,op⟩:=r;cases op<;>simpa only [zo] using h
 | r::rs,o::l,done,m::ms,h=>by
  obtain ⟨h1,h2⟩:=h;obtain ⟨d,g,op⟩:=r
  cases op with
  | iy Pr f xs=>
   refine ⟨?_,Mo rs l _ ms h2⟩;rcases h1 with h1 | ⟨_,h1⟩
   ·refine .inl ⟨?_,h1.dst,h1.ok,h1.guard⟩;obtain ⟨c,f',g1,g2,g3,g4⟩:=RJ h1.op;rw [g3,g4];exact .inr (.inl ⟨c,f',_,g1,g2,rfl⟩)
   ·simp [bad] at h1
  | st sz x y=>
   refine ⟨?_,Mo rs l _ ms h2⟩;rcases h1 with h1 | ⟨_,h1⟩
   ·refine .inl ⟨?_,h1.dst,h1.ok,h1.guard⟩;unfold stOp
    split
    ·exact h1.op
    ·obtain ⟨t,x',y',g1,g2,g3,g4⟩:=atv h1.op;exact .inr (.inr ⟨t,x',y',sz,_,g1,g2,by rw [g3,g4]⟩)
   ·simp [bad] at h1
  | _=>
   exact ⟨h1,Mo rs l _ ms h2⟩
end
section
variable {O:bA} {self:cK}
def aap {P:y6} {H:Hint} {ops:Array yZ}:∀{rs:List bn} {l:List yZ},mU P H ops rs l->rs.length=l.length/\∀(i:Nat) (r:bn) (o:yZ),rs[i]? =some r->l[i]? =some o->Nn P H ops r o\/(r.guard=none/\r.op=bad)
 | [],[],_=>⟨rfl,fun i r o h=>by simp at h⟩
 | [],_::_,h=>by simp [mU] at h
 | _::_,[],h=>by simp [mU] at h
 | r::rs,o::l,h=>by
  obtain ⟨h1,h2⟩:=aap h.2;refine ⟨by simp [h1],fun i r' o' hr ho=>?_⟩
  cases i with
  | zero=>simp at hr ho;subst hr;subst ho;exact h.1
  | succ i=>exact h2 i r' o' (by simpa using hr) (by simpa using ho)
def aky {m:Mp} {S:Nat->Prop} {w:yi} {hp:Hp} {ct:Nat} (hh:bf O m S w hp ct):Calm w {w with drawn:=w.drawn+1}:=⟨rfl,rfl,rfl,yC _,fun _ _=>rfl⟩
def aqU (hO:eP O) (hC:nD O self) (h:Nat) (id:Nat) (ops:Array yZ) (draw:Bool) (k:Nat) {s s':St} (hv:dR O.prog O.aU self (MF O.P (O.hint h) ops draw k).1 s=some s'):Bf O h (.region id ops draw) s .normal s':=by
 intro ro lo m S w a dh ht hh hb hn bq fE cU;unfold MF at hv;have Pv:=YD (P:=O.P) (H:=O.hint h) (ops:=ops) ops.toList k;generalize hq:Ct O.P (O.hint h) ops ops.toList k=q at hv Pv;obtain ⟨l,k'⟩:=q;simp only at hv Pv;have post:∀{a':Act} {m':Mp} {S':Nat->Prop} {w':yi},bf O m' S' w' s'.hp s'.ct->s.ct<=s'.ct->cw O m' S' w' s'.tm a'.tmps->cB m S w s.hp m' S' w' s'.hp s.ct->a'.tmps.size=a.tmps.size->a'.defers=a.defers->s'.base=s.base->eZ O m S w s .normal s' a.tmps.size lo .normal a' w':=by
  intro a' m' S' w' h1 h2 h3 h4 h5 h6 h7;exact ⟨rfl,m',S',h3,h1,h7,by omega,h4.rH hb,h5,by rw [h6];exact AO hh h4 cU⟩
 cases draw with
 | false=>
  simp only [yA] at hv;refine wpIn_region ?_;rw [List.range_eq_range'];have hl:ops.size=ops.toList.length:=by simp
  rw [hl];exact abn hC (hO.hint h) ops.toList l 0 s s' a m S w (fun j=>by simp) Pv hv ht hh hn (fun a' m' S' w' h1 h2 h3 h4 h5 h6 h7=>post h1 h2 h3 h4 h5 h6 h7)
 | true=>
  simp only [ym] at hv
  cases qM:(HI ops.toList 0&&El [] (zo [] l (my [] ops.toList)) (my [] ops.toList)) with
  | false=>
   rw [qM] at hv;simp [dR,bad,bw,dF,aA] at hv
  | true=>
   rw [qM] at hv;simp only [ym] at hv;simp only [yg] at qM;have afy:=Mo l ops.toList [] (my [] ops.toList) Pv;generalize zo [] l (my [] ops.toList)=rs at hv qM afy;obtain ⟨hlen,ak⟩:=aap afy;obtain ⟨cm,bR,bM,vF,hR,e1,e2,e3,e4,e5,e6,e7⟩:=abo hv;have hG:rD O (O.hint h) self ops rs cm bR bM vF:=by
    refine ⟨hR,by rw [hlen];simp,fun i r o hr ho=>?_,fun i j x y VK hx hy=>?_,fun i o ho e he hbd=>?_⟩
    ·rcases ak i r o hr (by simpa using ho) with g | ⟨g1,g2⟩
     ·grind
     ·have:=hR.step i r hr
      simp [fh,g1,oP,g2,bad,bw,dF,aA] at this
    ·obtain ⟨mm,g1,g2⟩:=XU (done:=[]) (i:=i) (j:=j) (a:=x) (b:=y) qM.2 (by simpa using hx) hy (by simpa using VK);refine g2.imp (fun g=>?_) (fun g=>by simpa using g);unfold Ord
     grind
    ·have:=XM qM.1 (j:=i) (o:=o) (by simpa using ho) e he hbd
     omega
   refine wpIn_region_any hO.mixed ?_;have I9:=aky hh;have jk:=Ee hh I9 (S':=S) (fun _ h=>h) (fun _ h=> .inl h) hh.slt
   have sn:cB m S w s.hp m S {w with drawn:=w.drawn+1} s.hp (bM 0):=Co hh I9 (fun _ h=>h) (fun _ h=> .inl h);obtain ⟨c,c1,c2,c3,c4⟩:=SF rs rs.length 0 (by omega);have hg:∀k',k'<=c->iJ (bR 0) (bM 0) (bR (0+k')) (bM (0+k')):=fun k' pz=>
    L3 hR (by rw [e2,e3];exact hh.bi) k' (by omega) (fun j r g1 g2 hr=>Ic hr (c3 j g1 (by omega)))
   have gU:=hg c (yC _);rw [yd] at gU;obtain ⟨S1,g1,g2,g3,g4⟩:=Ml (by rw [e2,e3];exact jk:bf O m S {w with drawn:=w.drawn+1} (bR 0) (bM 0)) gU
   have rC:∀i,(vm ops.size false).getD i false=true->False:=fun i hi=>by
    simp only [wM] at hi
    grind
   refine aqT (m0:=m) (S0:=S) (w0:=w) (n0:=a.tmps.size) (d0:=a.defers) hC (hO.hint h) hG hn (fun a' m' S' w' h1 h2 h3 h4 h5 h6=>?_) ops.size _ 0 c m S1 _ a (by simp) ?_ (fun j o _ hj=>(rC j hj).elim) ?_
   ·rw [e5,e6] at h1;rw [e3,e6] at h2;rw [e4] at h3;rw [e2,e3,e5] at h4;exact post h1 h2 h3 h4 h5 h6 e7
   ·unfold left;rw [List.countP_eq_length.2]
    ·simp
    ·intro i hi;simp only [Bool.not_eq_true']
     cases hq:(vm ops.size false).getD i false with
     | false=>rfl
     | true=>exact (rC i hq).elim
   ·refine ⟨yal _,c2,fun i hi=>by omega,c3,c4.imp (fun h=>h) (fun h=>⟨h,fun hd=>rC c hd⟩),fun i r _ _ _ hd=>rC i hd,g1,fun id p hp=> .inl (by rw [e3];exact hh.lt id p hp),fun t=>⟨0,yal _,fun i r _ _=>⟨fun hd=>(rC i hd).elim,fun h=>by omega⟩,?_⟩,?_,gU.pH,rfl,rfl,.inl rfl,fun j hj=>?_⟩
    ·rw [e1];exact mi (fun _ _ h=>h) (fun b hb=>g2 b hb) (fun b hb=>I9.same b (hh.slt b hb)) _ _ (ht t)
    ·rw [e2];have g5:=g4 (bM 0);rw [e2] at g5;exact sn.trans g5
    ·have:=(hg j hj).lt
     rw [yd] at this;exact this
end
end
section
open Go
section
variable {O:bA} {m:Mp} {S:Nat->Prop} {w:yi} {hp:Hp} {ct:Nat}
def YG (hh:bf O m S w hp ct) {g:Nat} {w':yi} (hw:One w w' g) (hg:¬S g) (ho:¬eE m hp g) (bq:O.w0.heap.size<=g):bf O m S w' hp ct:=by
 have aX:gm S w w':=fun b hb=>hw.other b (fun e=>hg (e▸hb))
 refine ⟨fun id o p h1 h2=>?_,hh.lt,hh.inj,fun b hb=>by rw [hw.size];exact hh.slt b hb,fun id p h=>by rw [hw.size];exact hh.blt id p h,hh.low,fun b hb=>?_,by rw [hw.size];exact hh.gA,hh.bi⟩
 ·exact rb (fun _ _ h=>h) (fun _ h=>h) aX (fun q hq=>hw.other _ (fun e=>ho ⟨id,o,q,h1,hq,e⟩)) (fun _ _ h=>h) (hh.obj id o p h1 h2)
 ·rw [hw.other b (by omega)];exact hh.lR b hb
def YH {P:y6} {b:Nat} {o:Go.Obj} (h:w.heap[b]? =some o) (hc:∀c t f,o≠.cells c t f):(getObj b).run P w= .ok o w:=by
 simp only [getObj,Sem.run,h]
def LP {P:y6} {b:Nat} {o x:Go.Obj} (h:w.heap[b]? =some o) (hc:∀c t f,o≠.cells c t f):(setObj b x).run P w= .ok () {w with heap:=w.heap.setIfInBounds b x}:=by
 simp only [setObj,Sem.run,h]
def Hw {P:y6} {b:Nat} {r:ud} (h:w.heap[b]? =some (.loop r)):(Instr.getLoop b).run P w= .ok r w:=by
 simp only [Instr.getLoop,Sem.run_bind,YH (P:=P) h (fun _ _ _=>by simp),Result.andThen_ok,Sem.run_pure]
def Ie (hh:bf O m S w hp ct) {l:Nat} {tm:Env} {ps:List Nat} {as_ body:VC} {st:Nat} {pe:rG} {p:Pl} (hg:ak hp l=some (.lp tm ps as_ body st pe)) (hm:m l=some p):
  ∃(r:ud) (h:Nat),w.heap[p.b]? =some (.loop r)/\¬S p.b/\r.state=Bq st/\st<=2/\r.pending=zc pe/\cw O m S w tm r.tmps/\r.params.toList=ps/\BN O.P (O.hint h) as_ r.assign/\BN O.P (O.hint h) body r.body/\
   (O.hint h).n<=r.tmps.size/\zp (O.hint h).n ps=true:=by
 obtain ⟨q,r,h,g1,g2,g3⟩:=hh.obj l _ p hg hm
 grind
def Zs (hh:bf O m S w hp ct) {l:Nat} {tm:Env} {ps:List Nat} {as_ body:VC} {st:Nat} {pe:rG} {p:Pl} (hg:ak hp l=some (.lp tm ps as_ body st pe)) (hm:m l=some p) {r:ud} (hr:w.heap[p.b]? =some (.loop r))
  {st':Nat} {pe':rG} (h2:st'<=2):
  bf O m S {w with heap:=w.heap.setIfInBounds p.b (.loop {r with state:=Bq st',pending:=zc pe'})} (aW hp l (.lp tm ps as_ body st' pe')) ct/\
  cB m S w hp m S {w with heap:=w.heap.setIfInBounds p.b (.loop {r with state:=Bq st',pending:=zc pe'})} (aW hp l (.lp tm ps as_ body st' pe')) ct:=by
 obtain ⟨r',h,g1,g2,g3,g4,g5,g6,g7,g8,g9,g10,g11⟩:=Ie hh hg hm;rw [hr] at g1;injection g1 with g1
 injection g1 with g1
 subst g1;have fI:=D9 w p.b (.loop {r with state:=Bq st',pending:=zc pe'})
 refine HW hh hg hm g2 fI ⟨p,{r with state:=Bq st',pending:=zc pe'},h,hm,LK hr,g2,rfl,h2,rfl,?_,g7,g8,g9,g10,g11⟩ (fun _ _=>⟨_,LK hr⟩);exact AN (fun _ _ h=>h) (fun _ h=>h) (fun b hb=>fI.other b (fun e=>g2 (e▸hb))) g6
def Zt {n:Nat}:∀{ps:List Nat} {vs:List AV} {us:List yf} {tm tm':Env} {tmps:Array yf},qj tm ps vs=some tm'->au O.ai m S w vs us->cw O m S w tm tmps->n<=tmps.size->zp n ps=true->
  ps.length=us.length/\cw O m S w tm' ((ps.zip us).foldl (fun t (x:Nat×yf)=>t.setIfInBounds x.1 x.2) tmps)/\((ps.zip us).foldl (fun t (x:Nat×yf)=>t.setIfInBounds x.1 x.2) tmps).size=tmps.size
 | [],[],us,tm,tm',tmps,h,hr,ht,hn,ha=>by
  simp only [qj,yc] at h;simp only [au] at hr
  simp_all
 | [],_::_,us,tm,tm',tmps,h,hr,ht,hn,ha=>by simp [qj] at h
 | _::_,[],us,tm,tm',tmps,h,hr,ht,hn,ha=>by simp [qj] at h
 | p::ps,v::vs,us,tm,tm',tmps,h,hr,ht,hn,ha=>by
  simp only [qj] at h;obtain ⟨u,t,rfl,h1,h2⟩:=hr;simp only [zp,yg] at ha;have hp:=sW.1 ha.1;have Pw:cw O m S w ((p,v)::tm) (tmps.setIfInBounds p u):=RN (a:=⟨tmps,[]⟩) (d:=some p) ht (fun i hi=>by injection hi with hi;show i<tmps.size;omega) h1
  obtain ⟨g1,g2,g3⟩:=Zt (n:=n) h h2 Pw (by simpa using hn) ha.2
  simp_all
def amy (ps:Array Tmp) (args:Array yf) (tmps:Array yf):(ps.zip args).foldl (fun tmps (x:Tmp×yf)=>tmps.setIfInBounds x.1 x.2) tmps=(ps.toList.zip args.toList).foldl (fun t (x:Nat×yf)=>t.setIfInBounds x.1 x.2) tmps:=by
 rw [<-Array.foldl_toList,Array.toList_zip]
def aiw {P:y6} {b:Nat} {r:ud} (h:w.heap[b]? =some (.loop r)) (jump:Option wI):
  (Instr.endRound b jump).run P w= .ok (.bool jump.isNone) {w with heap:=w.heap.setIfInBounds b (.loop {r with state:=if jump.isNone then .ready else .done,pending:=jump})}:=by
 simp only [Instr.endRound,Sem.run_bind,Hw h,Result.andThen_ok,LP (P:=P) h (fun _ _ _=>by simp),Sem.run_pure]
def aii {P:y6} {b:Nat} {r:ud} (h:w.heap[b]? =some (.loop r)) (hs:r.state= .ready):
  (Instr.beginRound b).run P w= .ok () {w with heap:=w.heap.setIfInBounds b (.loop {r with state:= .busy})}:=by
 simp only [Instr.beginRound,Sem.run_bind,Hw h,Result.andThen_ok,LP (P:=P) h (fun _ _ _=>by simp),hs,Sem.run_pure]
def amz {self:cK} (hS:∀v s ex s',self v s=some (ex,s')->∀c h l k,(comp O.P (O.hint h) c l k).1=v->Bf O h c s ex s') {l:Nat} {xs:List AV} {v:AV} {ao:Hp} {bg:Nat}
  (hv:jt self hp ct l xs=some (v,ao,bg)):ab5 O hp ct l xs v ao bg:=by
 intro m S w args p hh hm hX;unfold jt at hv
 split at hv
 case h_2=>cases hv
 rename_i tm ps as_ body pe hg;obtain ⟨r,h,g1,g2,g3,g4,g5,g6,g7,⟨ca,ka,g8⟩,⟨cb,kb,g9⟩,g10,g11⟩:=Ie hh hg hm
 cases hb:qj tm ps xs with
 | none=>simp [hb] at hv
 | some tm'=>
  simp only [hb] at hv;obtain ⟨b1,b2,b3⟩:=Zt hb hX g6 g10 g11;rw [<-g7] at b1 b2 b3;have fa:args.size=r.params.size:=by
   grind
  let tmps:Array yf:=(r.params.zip args).foldl (fun tmps (x:Tmp×yf)=>tmps.setIfInBounds x.1 x.2) r.tmps
  have afz:tmps=(r.params.toList.zip args.toList).foldl (fun t (x:Nat×yf)=>t.setIfInBounds x.1 x.2) r.tmps:=amy _ _ _;refine ⟨r.fn,tmps,r.assign,r.body,?_,?_⟩
  ·simp only [Instr.yield,Sem.run_bind,Hw g1,Result.andThen_ok,fa,tJ,wQ,yO,Sem.run_pure];rfl
  refine roundIn_of_wpIn (F:=Fence.wide) trivial ?_
  cases h1:self as_ ⟨tm',hp,ct,ct⟩ with
  | none=>simp [h1] at hv
  | some q=>
   obtain ⟨ex1,s1⟩:=q
   cases ex1 with
   | ret=>simp [h1] at hv
   | exit id=>simp [h1] at hv
   | normal=>
    simp only [h1] at hv;have eh:=hS _ _ _ _ h1 r.assign h ca ka g8;have dh:∀w',cB m S w hp m S w' hp ct->zd (some p.b) w':=fun w' hf=>L5 hf (fun l hl=>⟨r,by injection hl with hl;subst hl;exact g1⟩)
    refine wpIn_mono (eh (some p.b) w.heap.size m S w ⟨tmps,[]⟩ (dh w cB.refl) (by rw [afz];exact b2) hh (yC _) (by show _<=tmps.size;rw [afz,b3];exact g10) hh.gA (yC _) ⟨[],rfl,by simp,by simp⟩) ?_
    rintro e a1 w1 ⟨rfl,m1,S1,k1,k2,k3,k4,k5,k6,k7⟩;simp only [qC,Exit.then];have qO:m1 l=some p:=k5.old l p (hh.lt l p hm) hm
    split at hv
    case h_2=>cases hv
    rename_i iQ rW Dq CQ px gU;obtain ⟨r1,jk,f1,f2,f3,f4,f5,f6,f7,f8,f9,f10,f11⟩:=Ie k2 gU qO;have KC:=aii (P:=O.P) f1 f3;obtain ⟨q1,q2⟩:=Zs k2 gU qO f1 (st':=1) (pe':=px) (by omega)
    have cp:({r1 with state:=Bq 1,pending:=zc px}:ud)={r1 with state:= .busy}:=by rw [<-f5];rfl
    rw [cp] at q1 q2;refine ⟨_,KC,?_⟩
    cases h2:self body ⟨s1.tm,aW s1.hp l (.lp iQ rW Dq CQ 1 px),s1.ct,s1.ct⟩ with
    | none=>simp [h2] at hv
    | some q=>
     obtain ⟨ex,s2⟩:=q;simp only [h2] at hv;have pG:=hS _ _ _ _ h2 r.body h cb kb g9
     have au1:zd (some p.b) {w1 with heap:=w1.heap.setIfInBounds p.b (.loop {r1 with state:= .busy})}:=fun l hl=>by
      grind
     have VR:cw O m1 S1 {w1 with heap:=w1.heap.setIfInBounds p.b (.loop {r1 with state:= .busy})} s1.tm a1.tmps:=
      AN (fun _ _ h=>h) (fun _ h=>h) (fun b hb=>q2.still b hb) k1
     have au2:(O.hint h).n<=a1.tmps.size:=by
      grind
     refine wpIn_mono (pG (some p.b) w.heap.size m1 S1 _ a1 au1 VR q1 (yC _) au2 hh.gA (xj k5.size q2.size) (AO k2 q2 k7)) ?_;rintro e a2 w2 ⟨rfl,m2,S2,j1,j2,j3,j4,j5,j6,j7⟩;have od:m2 l=some p:=j5.old l p (k2.lt l p qO) qO
     split at hv
     case h_2=>cases hv
     rename_i jh BL Km I6 pe2 mM;obtain ⟨r2,KD,d1,d2,d3,d4,d5,d6,d7,d8,d9,d10,d11⟩:=Ie j2 mM od;have au3:cB m S w hp m2 S2 w2 s2.hp ct:=(k5.trans (q2.rH k4)).trans (j5.rH k4);have afA:ct<=s2.ct:=xj k4 j4;have fin:∀(jump:Option wI) (st':Nat) (pe':rG),zc pe'=jump->Bq st'=(if jump.isNone then .ready else .done)->st'<=2->
       ∃v' w',(Instr.endRound p.b jump).run O.P w2= .ok v' w'/\sO O m S w hp ct (.bool jump.isNone) (aW s2.hp l (.lp jh BL Km I6 st' pe')) s2.ct (.returned v') w':=by
      intro jump st' pe' e1 e2 e3;obtain ⟨z1,z2⟩:=Zs j2 mM od d1 (st':=st') (pe':=pe') e3;rw [e1,e2] at z1 z2;exact ⟨_,_,aiw d1 jump,_,m2,S2,rfl,z1,afA,by simp [aj],au3.trans (z2.rH afA)⟩
     cases ex with
     | normal=>
      simp only [yc,yk] at hv;obtain ⟨rfl,rfl,rfl⟩:=hv;simp only [qC,roundPost];exact fin none 0 .none rfl rfl (by omega)
     | ret=>
      simp only [SA,yc,yk] at hv;obtain ⟨rfl,rfl,rfl⟩:=hv;simp only [qC,roundPost];exact fin (some .ret) 2 .ret rfl rfl (by omega)
     | exit id=>
      simp only [SA,yc,yk] at hv;obtain ⟨rfl,rfl,rfl⟩:=hv;simp only [qC,roundPost];exact fin (some (.exit id)) 2 (.exit id) rfl rfl (by omega)
end
end
section
open Go
section
variable {O:bA} {self:cK}
def Mq {P:y6} {f:tk} {fn:tn} {args:Array yf} {w:yi} (hf:P.funcs[f]? =some fn) (hb:fn.body.isSome=true) (hn:fn.name≠ "runtime.NumGoroutine"):(callFunc f args).run P w= .ok (.enter f args) w:=by
 have h1:fn.body≠none:=fun e=>by rw [e] at hb;cases hb
 simp [callFunc,program,Sem.run,hf,h1,hn]
def QD {P:y6} {H:Hint} {fn:tn} {F:aD} (h:Ey P H fn=some F):∃c,fn.body=some c/\F.body=(comp P H c 0 0).1/\oF P fn.results.toList=some F.dT/\H.n<=fn.ntmps:=by
 unfold Ey at h
 split at h
 ·rename_i c rs h1 h2
  cases hb:Nat.ble H.n fn.ntmps with
  | false=>rw [hb] at h;cases h
  | true=>
   rw [hb] at h;simp only [ym,yc] at h;subst h
   simp_all
 ·cases h
def amA {m:Mp} {S:Nat->Prop} {w:yi} {hp:Hp} {ct:Nat} {tm:Env} {a:Act} {ro:Option Nat} (fn:tk) (ps:Array Tmp) (assign body:wI) {as_ b':VC} {h:Nat} (hh:bf O m S w hp ct) (ht:cw O m S w tm a.tmps) (dh:zd ro w)
  (VS:BN O.P (O.hint h) as_ assign) (VT:BN O.P (O.hint h) b' body) (hn:(O.hint h).n<=a.tmps.size) (fD:zp (O.hint h).n ps.toList=true) {lo:Nat} (fE:lo<=w.heap.size) (cU:Marks lo S w a.defers):
  ∃l mark w1,(Instr.enterLoop fn a.tmps ps assign body ro).run O.P w= .ok (l,mark) w1/\bf O (fO m ct ⟨l,0,0,0⟩) S w1 ((ct,.lp tm ps.toList as_ b' 0 .none)::hp) (ct+1)/\
   cB m S w hp (fO m ct ⟨l,0,0,0⟩) S w1 ((ct,.lp tm ps.toList as_ b' 0 .none)::hp) ct/\m ct=none/\Marks lo S w1 (mark++a.defers)/\w.heap.size<=l:=by
 have bL:m ct=none:=by
  cases hq:m ct with
  | none=>rfl
  | some p=>have:=hh.lt ct p hq;omega
 have lay:∀(w':yi) (d:Nat),Calm w w'->Marks lo S w' a.defers->
   bf O (fO m ct ⟨w'.heap.size,0,0,0⟩) S (w'.alloc (.loop {state:= .ready,pending:=none,fn:=fn,tmps:=a.tmps,params:=ps,assign:=assign,body:=body,defers:=d})) ((ct,.lp tm ps.toList as_ b' 0 .none)::hp) (ct+1)/\
   cB m S w hp (fO m ct ⟨w'.heap.size,0,0,0⟩) S (w'.alloc (.loop {state:= .ready,pending:=none,fn:=fn,tmps:=a.tmps,params:=ps,assign:=assign,body:=body,defers:=d})) ((ct,.lp tm ps.toList as_ b' 0 .none)::hp) ct:=by
  intro w' d hw afB;have jk:bf O m S w' hp ct:=Ee hh hw (fun _ h=>h) (fun _ h=> .inl h) (fun b hb=>Nat.lt_of_lt_of_le (hh.slt b hb) hw.size);have sn:cB m S w hp m S w' hp ct:=Co hh hw (fun _ h=>h) (fun _ h=> .inl h);have hg:iJ hp ct ((ct,.lp tm ps.toList as_ b' 0 .none)::hp) (ct+1):=by
   refine ⟨fun id o ho=>⟨o,?_,jC.refl o⟩,by omega,fun id o ho=>?_,fun id o ho hi=>?_⟩
   ·rw [ir,yB (by have:=hh.bi id o ho;omega)];exact ho
   ·rw [ir] at ho;by_cases hc:ct=id
    ·omega
    ·simp only [hc,yO] at ho;have:=hh.bi id o ho;omega
   ·rw [ir,yB (by omega)] at ho;exact ⟨o,ho⟩
  have ik:∀i q,ak ((ct,Obj.lp tm ps.toList as_ b' 0 .none)::hp) i=some q->i≠ct->ak hp i=some q:=fun i q h hi=>by
   rw [ir,yB (fun e=>hi e.symm)] at h;exact h
  have KD:bf O m S w' ((ct,.lp tm ps.toList as_ b' 0 .none)::hp) (ct+1):=by
   have eK:∀id p,m id=some p->id≠ct:=fun id p hm e=>by have:=hh.lt id p hm;omega
   exact ⟨fun id o p ho hm=>jk.obj id o p (ik id o ho (eK id p hm)) hm,fun id p hm=>by have:=hh.lt id p hm;omega,
    fun i j oi oj pi pj hi hj bL gE e=>jk.inj i j oi oj pi pj (ik i oi hi (eK i pi bL)) (ik j oj hj (eK j pj gE)) bL gE e,jk.slt,jk.blt,jk.low,jk.lR,jk.gA,hg.lt⟩
  have oc:fM O (fO m ct ⟨w'.heap.size,0,0,0⟩) S (w'.alloc (.loop {state:= .ready,pending:=none,fn:=fn,tmps:=a.tmps,params:=ps,assign:=assign,body:=body,defers:=d})) ct (.lp tm ps.toList as_ b' 0 .none):=by
   refine ⟨⟨w'.heap.size,0,0,0⟩,_,h,eJ,heap_alloc_new w' _,?_,rfl,by omega,rfl,?_,rfl,VS,VT,hn,fD⟩
   ·intro hS
    have:=jk.slt _ hS
    simp at this
   ·exact AN (kN bL) (fun _ h=>h) (fun b hb=>(Hy jk _ b hb).trans (hw.same b (hh.slt b hb))) ht
  obtain ⟨S',k1,k2,k3⟩:=aac (i:=ct) (p:=⟨w'.heap.size,0,0,0⟩) KD bL (by omega) rfl (fun o ho=>by
   rw [ir] at ho;simp only [y5,yc] at ho;subst ho
   exact .inl ⟨oc,by simp [ju]⟩)
  have k1':bf O (fO m ct ⟨w'.heap.size,0,0,0⟩) S (w'.alloc (.loop {state:= .ready,pending:=none,fn:=fn,tmps:=a.tmps,params:=ps,assign:=assign,body:=body,defers:=d})) ((ct,.lp tm ps.toList as_ b' 0 .none)::hp) (ct+1):=by
   have Ks:∀id q,m id=some q->q.b≠w'.heap.size:=fun id q hq=>by have:=jk.blt id q hq;omega
   refine ⟨?_,k1.lt,k1.inj,fun b hb=>k1.slt b (k2 b hb),k1.blt,k1.low,k1.lR,k1.gA,k1.bi⟩;intro id o q ho hm;by_cases hc:id=ct
   ·subst hc;rw [ir] at ho
    grind
   ·rw [eI hc] at hm;exact rb (kN bL) (fun _ h=>h) (Hy jk _) (fun q' cd=>alloc_old (jk.blt id q' cd)) (fun _ _ h=>h) (jk.obj id o q (ik id o ho hc) hm)
  refine ⟨k1',sn.trans ⟨rfl,rfl,rfl,by simp,fun b hb _=>alloc_old hb,fun _ h=>h,fun b hb=>Hy jk _ b hb,fun b hb=> .inl hb,?_,fun i q _ hq=>kN bL i q hq,fun b r hb=>⟨r,(alloc_old (xx.1 hb).1).trans hb⟩⟩⟩;rintro b ⟨i,o,q,g1,g2,g3⟩;by_cases hc:i=ct
  ·subst hc;rw [eJ] at g2
   grind
  ·rw [eI hc] at g2;exact .inl ⟨i,o,q,ik i o g1 hc,g2,g3⟩
 cases ro with
 | none=>
  have I9:Calm w (w.alloc (.deferred (some []))):=⟨rfl,rfl,rfl,by simp,fun b hb=>alloc_old hb⟩;obtain ⟨rs,r1,r2,r3⟩:=cU;have au4:Marks lo S (w.alloc (.deferred (some []))) a.defers:=⟨rs,r1,r2,fun r hr=>⟨(alloc_old (xx.1 (r3 r hr).1).1).trans (r3 r hr).1,(r3 r hr).2⟩⟩;obtain ⟨k1,k2⟩:=lay (w.alloc (.deferred (some []))) w.heap.size I9 au4
  refine ⟨(w.alloc (.deferred (some []))).heap.size,[{target:= .collected w.heap.size,args:=#[]}],_,?_,k1,k2,bL,?_,by simp⟩
  ·simp [Instr.enterLoop,newObj,Sem.run]
  ·have hold:∀(b:Nat) (x:Go.Obj),(w.alloc (.deferred (some []))).heap[b]? =some x->((w.alloc (.deferred (some []))).alloc (.loop {state:= .ready,pending:=none,fn:=fn,tmps:=a.tmps,params:=ps,assign:=assign,body:=body,defers:=w.heap.size})).heap[b]? =some x:=fun b x hb=>
    (alloc_old (xx.1 hb).1).trans hb
   refine ⟨w.heap.size::rs,by rw [r1];rfl,?_,?_⟩
   ·grind
   ·intro r hr;rcases List.mem_cons.1 hr with rfl | hr
    ·exact ⟨hold _ _ (heap_alloc_new w _),fun hs=>by have:=hh.slt _ hs;omega,fE⟩
    ·exact ⟨hold _ _ ((alloc_old (xx.1 (r3 r hr).1).1).trans (r3 r hr).1),(r3 r hr).2⟩
 | some l0=>
  obtain ⟨r0,lY⟩:=dh l0 rfl;obtain ⟨k1,k2⟩:=lay w r0.defers Calm.refl cU;refine ⟨w.heap.size,[],_,?_,k1,k2,bL,?_,yC _⟩
  ·simp [Instr.enterLoop,Hw lY,newObj,Sem.run]
  ·exact AO hh k2 cU
def atw (hO:eP O) (hC:nD O self) {h:Nat} {f:Operand} {ps:Array Tmp} {assign body:wI} {as_ b':VC} (VS:BN O.P (O.hint h) as_ assign) (VT:BN O.P (O.hint h) b' body) (fD:zp (O.hint h).n ps.toList=true)
  {s:St} {ex:Ex} {s':St} (hv:bI O.prog O.aU self (.rf (aT (O.hint h) f) ps.toList as_ b') s=some (ex,s')):Bf O h (.rangeFunc f ps assign body) s ex s':=by
 intro ro lo m S w a dh ht hh hb hn bq fE cU;simp only [bI] at hv
 split at hv
 case h_2=>cases hv
 rename_i n first cap hx
 split at hv
 case h_1=>cases hv
 rename_i hL
 cases he:iH O.prog O.aU self ((s.ct,.lp s.tm ps.toList as_ b' 0 .none)::s.hp) (s.ct+1) n (first++(.fn (.y s.ct) [] []::cap)) with
 | none=>simp [he] at hv
 | some q=>
  obtain ⟨v,bF,sj⟩:=q;simp only [he] at hv
  split at hv
  case h_2=>cases hv
  rename_i jh BL Km I6 st pe mM
  cases aX:yu st 1 with
  | true=>rw [aX] at hv;cases hv
  | false=>
   rw [aX] at hv;simp only [yA] at hv;refine wpIn_rangeFunc (fun fn _=>?_);obtain ⟨l,mark,w1,e1,e2,e3,e4,e5,e6⟩:=amA (ro:=ro) fn ps assign body hh ht dh VS VT hn fD fE cU;have rf:=cI (hO.hint h) ht f;rw [hx] at rf;simp only [aj] at rf;obtain ⟨fi,ca,hf,r2,r3⟩:=rf;have hle:=kN e4 (p:=⟨l,0,0,0⟩);have Br:gm S w w1:=fun b hb=>e3.still b hb
   have hX:au O.ai (fO m s.ct ⟨l,0,0,0⟩) S w1 (first++(.fn (.y s.ct) [] []::cap)) (fi++#[Value.func (.yield l) #[] #[]]++ca).toList:=by
    have:=mf (iq hle (fun _ h=>h) Br _ _ r2) (mf (a:=[.fn (.y s.ct) [] []]) (x:=[Value.func (.yield l) #[] #[]]) (by
     simp only [au]
     exact ⟨_,[],rfl,by simp only [aj];exact ⟨_,eJ,rfl⟩,rfl⟩) (iq hle (fun _ h=>h) Br _ _ r3))
    grind
   have zt:=hC.heap _ _ _ _ _ _ _ he _ S w1 _ e2 hX;have hP:∃F,O.prog n=some F:=by
    unfold iH at he;rw [hL] at he
    cases hq:O.prog n with
    | none=>simp [hq] at he
    | some F=>exact ⟨F,rfl⟩
   obtain ⟨F,hF⟩:=hP;obtain ⟨fn',q1,q2,q3⟩:=hO.prog n F hF;obtain ⟨cb,q4,_⟩:=QD q2;have fW:(callFunc (O.ai n) (fi++#[Value.func (.yield l) #[] #[]]++ca)).run O.P w1= .ok (.enter (O.ai n) (fi++#[Value.func (.yield l) #[] #[]]++ca)) w1:=Mq q1 (by rw [q4];rfl) q3
   refine ⟨l,mark,w1,{target:= .fn (.func (O.ai n)) ca,args:=fi++#[Value.func (.yield l) #[] #[]]},w1,O.ai n,fi++#[Value.func (.yield l) #[] #[]]++ca,w1,e1,?_,fun _ _=>trivial,?_,fun hd=>by simp [WF,Fence.wide] at hd,?_⟩
   ·show Sem.run O.P (Deferred.ofValue (a.eval f) _) w1=_
    rw [hf];simp [Deferred.ofValue,Act.eval]
   ·simp only [invoke];exact fW
   ·rcases zt with ⟨_,zt⟩ | ⟨u,w',h1,_⟩
    case inr=>rw [fW] at h1;cases h1
    have aqV:CallsIn (WF ro) 0 O.P (O.ai n) (fi++#[Value.func (.yield l) #[] #[]]++ca) w1 (sO O (fO m s.ct ⟨l,0,0,0⟩) S w1 ((s.ct,.lp s.tm ps.toList as_ b' 0 .none)::s.hp) (s.ct+1) v bF sj):=zt;refine CallsIn.mono aqV ?_;rintro e w3 ⟨u,m',S',rfl,k1,k2,k3,k4⟩;have gK:m' s.ct=some ⟨l,0,0,0⟩:=k4.old s.ct _ (Nat.lt_succ_self _) eJ;obtain ⟨r,KD,d1,d2,d3,d4,d5,d6,_⟩:=Ie k1 mM gK;have pI:(r.state==LoopState.busy)=false:=by
     rw [d3];rcases st with _ | _ | st
     ·rfl
     ·simp_all
     ·have:st=0:=by omega
      subst this;rfl
    have fI:=D9 w3 l (.loop {r with state:= .exhausted});have VU:=aak k1 s.ct;have gW:¬eE m' (dA bF s.ct) l:=X6 k1 mM gK
    have z1:bf O m' S' {w3 with heap:=w3.heap.setIfInBounds l (.loop {r with state:= .exhausted})} (VE.dA bF s.ct) sj:=YG VU fI d2 gW (by have:=hh.gA;omega)
    have z2:cB m' S' w3 bF m' S' {w3 with heap:=w3.heap.setIfInBounds l (.loop {r with state:= .exhausted})} (VE.dA bF s.ct) s.base:=by
     refine ⟨rfl,rfl,rfl,by rw [fI.size];exact yC _,fun b _ hb=>fI.other b (fun e=>hb (e▸Iv mM gK)),fun _ h=>h,fun b hb=>fI.other b (fun e=>d2 (e▸hb)),fun b hb=> .inl hb,fun b hb=> .inl (abl hb),fun _ _ _ h=>h,fun b x hb=>?_⟩
     grind
    have TL:cB m S w s.hp m' S' {w3 with heap:=w3.heap.setIfInBounds l (.loop {r with state:= .exhausted})} (VE.dA bF s.ct) s.base:=
     ((e3.rH hb).trans (k4.rH (by omega))).trans z2
    have NW:(Instr.endLoop l).run O.P w3= .ok (zc pe) {w3 with heap:=w3.heap.setIfInBounds l (.loop {r with state:= .exhausted})}:=by
     simp only [Instr.endLoop,Sem.run_bind,Hw d1,Result.andThen_ok,pI,Bool.false_eq_true,yO,Sem.run_pure,LP (P:=O.P) d1 (fun _ _ _=>by simp),d5]
    have afB:Marks lo S' {w3 with heap:=w3.heap.setIfInBounds l (.loop {r with state:= .exhausted})} (mark++a.defers):=AO k1 z2 (AO e2 k4 e5)
    have Aj:cw O m' S' {w3 with heap:=w3.heap.setIfInBounds l (.loop {r with state:= .exhausted})} s.tm a.tmps:=by
     refine AN (fun id p hp=>?_) TL.sub (fun b hb=>TL.still b hb) ht;have h1:=hh.lt id p hp;exact k4.old id p (by omega) (hle id p hp)
    have post:∀VV,s'={s with hp:=VE.dA bF s.ct,ct:=sj}->ex=VV->eZ O m S w s ex s' a.tmps.size lo (qC VV) {a with defers:=mark++a.defers} {w3 with heap:=w3.heap.setIfInBounds l (.loop {r with state:= .exhausted})}:=by
     rintro VV rfl rfl;exact ⟨rfl,m',S',Aj,z1,rfl,by show s.base<=sj;omega,TL,rfl,afB⟩
    refine ⟨_,_,NW,?_⟩
    cases pe with
    | none=>
     simp only [yc,yk] at hv;exact post .normal hv.2.symm hv.1.symm
    | ret=>
     simp only [yc,yk] at hv;exact wpIn_ret (post .ret hv.2.symm hv.1.symm)
    | exit id=>
     simp only [yc,yk] at hv;exact wpIn_exit (post (.exit id) hv.2.symm hv.1.symm)
end
end
section
def Le (f g:cK):Prop:=∀c s r,f c s=some r->g c s=some r
section
variable {P:aG} {L:Lib} {f g:cK}
def Qw (h:Le f g) (n:Nat) (vals:List AV) (r:AV) (hr:bO P L f n vals=some r):bO P L g n vals=some r:=by
 unfold bO at hr ⊢
 cases hL:L.pure n with
 | some sp=>simpa only [hL] using hr
 | none=>
  simp only [hL] at hr ⊢
  cases hP:P n with
  | none=>simp [hP] at hr
  | some F=>
   simp only [hP] at hr ⊢
   cases hf:f F.body ⟨fG 0 vals,[],0,0⟩ with
   | none=>simp [hf] at hr
   | some q=>rw [h _ _ _ hf];simpa only [hf] using hr
def QE (h:Le f g) (hp:Hp) (ct:Nat) (n:Nat) (vals:List AV) (r:AV×Hp×Nat) (hr:iH P L f hp ct n vals=some r):iH P L g hp ct n vals=some r:=by
 unfold iH at hr ⊢
 cases hL:L.heap n with
 | some sp=>simpa only [hL] using hr
 | none=>
  simp only [hL] at hr ⊢
  cases hP:P n with
  | none=>simp [hP] at hr
  | some F=>
   simp only [hP] at hr ⊢
   cases hf:f F.body ⟨fG 0 vals,hp,ct,ct⟩ with
   | none=>simp [hf] at hr
   | some q=>rw [h _ _ _ hf];simpa only [hf] using hr
def XX (h:Le f g) (hp:Hp) (ct:Nat) (l:Nat) (xs:List AV) (r:AV×Hp×Nat) (hr:jt f hp ct l xs=some r):jt g hp ct l xs=some r:=by
 unfold jt at hr ⊢
 cases hl:ak hp l with
 | none=>simp [hl] at hr
 | some o=>
  simp only [hl] at hr ⊢
  split at hr
  ·rename_i tm ps as_ body pe fZ;simp only [yc] at fZ;subst fZ
   (try simp only at hr ⊢)
   cases hb:qj tm ps xs with
   | none=>simp [hb] at hr
   | some tm'=>
    simp only [hb] at hr ⊢
    cases h1:f as_ ⟨tm',hp,ct,ct⟩ with
    | none=>simp [h1] at hr
    | some q=>
     rw [h _ _ _ h1];simp only [h1] at hr ⊢
     split at hr
     ·rename_i s1 TN;simp only [yc] at TN;subst TN
      (try simp only at hr ⊢)
      split at hr
      ·rename_i iQ rW Dq CQ px afC
       (try simp only [afC])
       cases h2:f body ⟨s1.tm,aW s1.hp l (.lp iQ rW Dq CQ 1 px),s1.ct,s1.ct⟩ with
       | none=>simp [h2] at hr
       | some q2=>rw [h _ _ _ h2];simpa only [h2] using hr
      ·simp at hr
     ·simp at hr
  ·simp at hr
def Yb (h:Le f g) (hp:Hp) (ct:Nat) (m:Md) (fv:AV) (xs:List AV) (r:AV×Hp×Nat) (hr:dF P L f hp ct m fv xs=some r):dF P L g hp ct m fv xs=some r:=by
 unfold dF at hr ⊢
 split at hr
 ·rename_i n first cap
  cases m with
  | pure=>
   simp only at hr ⊢
   cases hz:cO deep hp (first++(xs++cap)) with
   | none=>simp [hz] at hr
   | some q=>
    simp only [hz] at hr ⊢
    cases hc:bO P L f n q.1 with
    | none=>simp [hc] at hr
    | some u=>rw [Qw h n q.1 u hc];simpa only [hc] using hr
  | own=>
   simp only at hr ⊢
   cases hz:cO deep hp (first++(xs++cap)) with
   | none=>simp [hz] at hr
   | some q=>
    simp only [hz] at hr ⊢
    cases hc:bO P L f n q.1 with
    | none=>simp [hc] at hr
    | some u=>rw [Qw h n q.1 u hc];simpa only [hc] using hr
  | heap=>exact QE h _ _ _ _ _ hr
  | dyn=>
   simp only at hr ⊢
   cases hz:aH (first++(xs++cap)) with
   | true=>
    simp only [hz,ym] at hr ⊢
    cases hc:bO P L f n (first++(xs++cap)) with
    | none=>simp [hc] at hr
    | some u=>rw [Qw h n _ u hc];simpa only [hc] using hr
   | false=>
    simp only [hz,yA] at hr ⊢;exact QE h _ _ _ _ _ hr
 ·split at hr
  ·exact XX h _ _ _ _ _ hr
  ·exact XX h _ _ _ _ _ hr
  ·simp at hr
 ·simp at hr
def Zu (h:Le f g) (tm:Env) (hp:Hp) (ct:Nat) (o:Op) (r:AV×Hp×Nat) (hr:bw P L f tm hp ct o=some r):bw P L g tm hp ct o=some r:=by
 unfold bw at hr ⊢
 split at hr
 ·exact Yb h _ _ _ _ _ _ hr
 ·rename_i rs fv xs
  (try simp only at hr ⊢)
  cases hc:dF P L f hp ct .dyn (aA tm fv) (dG tm xs) with
  | none=>simp [hc] at hr
  | some q=>rw [Yb h _ _ _ _ _ _ hc];simpa only [hc] using hr
 all_goals simpa only using hr
def LQ (h:Le f g):∀(ops:List bn) (s s':St),dR P L f ops s=some s'->dR P L g ops s=some s'
 | [],s,s',hr=>by simpa only [dR] using hr
 | ⟨d,gd,o⟩::r,s,s',hr=>by
  simp only [dR] at hr ⊢
  split at hr
  ·rename_i hw
   try simp only [hw]
   cases ho:bw P L f s.tm s.hp s.ct o with
   | none=>simp [ho] at hr
   | some q=>rw [Zu h _ _ _ _ _ ho];simp only [ho] at hr ⊢;exact LQ h r _ _ hr
  ·rename_i hw
   (try simp only [hw]);exact LQ h r _ _ hr
  ·simp at hr
def pT (h:Le f g):∀(c:VC) (s:St) (r:Ex×St),bI P L f c s=some r->bI P L g c s=some r
 | .skip,s,r,hr=>by simpa only [bI] using hr
 | .aP ops,s,r,hr=>by
  simp only [bI] at hr ⊢
  cases ho:dR P L f ops s with
  | none=>simp [ho] at hr
  | some s'=>rw [LQ h _ _ _ ho];simpa only [ho] using hr
 | .seq a b,s,r,hr=>by
  simp only [bI] at hr ⊢
  cases ha:bI P L f a s with
  | none=>simp [ha] at hr
  | some q=>
   rw [pT h a s q ha];obtain ⟨ex,s1⟩:=q
   cases ex with
   | normal=>simp only [ha] at hr ⊢;exact pT h b s1 r hr
   | ret=>simpa only [ha] using hr
   | exit id=>simpa only [ha] using hr
 | .cond x a b,s,r,hr=>by
  simp only [bI] at hr ⊢
  split at hr
  ·rename_i t ht
   try simp only [ht]
   cases t with
   | true=>simp only [ym] at hr ⊢;exact pT h a s r hr
   | false=>simp only [yA] at hr ⊢;exact pT h b s r hr
  ·simp at hr
 | .aK id a,s,r,hr=>by
  simp only [bI] at hr ⊢
  cases ha:bI P L f a s with
  | none=>simp [ha] at hr
  | some q=>rw [pT h a s q ha];simpa only [ha] using hr
 | .kp live,s,r,hr=>by simpa only [bI] using hr
 | .fz ts,s,r,hr=>by simpa only [bI] using hr
 | .loop live a,s,r,hr=>by
  simp only [bI] at hr ⊢
  cases ha:bI P L f a (bD live s) with
  | none=>simp [ha] at hr
  | some q=>
   rw [pT h a _ q ha];obtain ⟨ex,s1⟩:=q
   cases ex with
   | normal=>simp only [ha] at hr ⊢;exact h _ _ _ hr
   | ret=>simpa only [ha] using hr
   | exit id=>simpa only [ha] using hr
 | .rf fv ps as_ body,s,r,hr=>by
  simp only [bI] at hr ⊢
  split at hr
  ·rename_i n first cap hx
   try simp only [hx]
   split at hr
   ·simp at hr
   ·rename_i hL
    try simp only [hL]
    cases hc:iH P L f ((s.ct,.lp s.tm ps as_ body 0 .none)::s.hp) (s.ct+1) n (first++(.fn (.y s.ct) [] []::cap)) with
    | none=>simp [hc] at hr
    | some q=>rw [QE h _ _ _ _ _ hc];simpa only [hc] using hr
  ·simp at hr
 | .exit id,s,r,hr=>by simpa only [bI] using hr
 | .ret,s,r,hr=>by simpa only [bI] using hr
end
def Ig (P:aG) (L:Lib) (c:VC) (s:St):ev P L 0 c s=none:=rfl
def Ih (P:aG) (L:Lib) (n:Nat):ev P L (n+1)=bI P L (ev P L n):=rfl
def adX (P:aG) (L:Lib):∀n,Le (ev P L n) (ev P L (n+1))
 | 0=>fun c s r h=>by rw [Ig] at h;cases h
 | n+1=>fun c s r h=>by
  rw [Ih] at h ⊢;exact pT (adX P L n) c s r h
def Sb (P:aG) (L:Lib) {n m:Nat} (h:n<=m):Le (ev P L n) (ev P L m):=by
 induction h with
 | refl=>exact fun _ _ _ h=>h
 | step _ ih=>exact fun c s r hr=>adX P L _ c s r (ih c s r hr)
end
section
open Go
section
variable {O:bA} {self:cK}
def eZ.none {m:Mp} {S:Nat->Prop} {w:yi} {s s':St} {ex:Ex} {n lo:Nat} {a:Act} {w':yi} (l:Nat):¬eZ O m S w s ex s' n lo (.goto l) a w':=by
 rintro ⟨h,_⟩;cases ex<;>cases h
def eZ.then {m m1:Mp} {S S1:Nat->Prop} {w w1:yi} {s s1 s2:St} {ex:Ex} {n lo:Nat} {a':Act} {w':yi} {e:uz} {ex1:Ex} (h1:s1.base=s.base)
  (hf:cB m S w s.hp m1 S1 w1 s1.hp s.base) (h:eZ O m1 S1 w1 s1 ex s2 n lo e a' w'):eZ O m S w s ex s2 n lo e a' w':=by
 obtain ⟨h2,m',S',k1,k2,k3,k4,k5,k6,k7⟩:=h;rw [h1] at k3 k4 k5;exact ⟨h2,m',S',k1,k2,k3,k4,hf.trans k5,k6,k7⟩
def eZ.df {m:Mp} {S:Nat->Prop} {w:yi} {s s1:St} {n lo:Nat} {a':Act} {w':yi} {e:uz} {ex:Ex} (live:List Nat) (h:eZ O m S w s ex s1 n lo e a' w'):eZ O m S w s ex (bD live s1) n lo e a' w':=by
 obtain ⟨h2,m',S',k1,k2,k3,k4,k5,k6,k7⟩:=h;obtain ⟨m2,g1,g2,g3,g4,g5⟩:=QQ (live:=live) k1 k2 (by rw [k3];exact k4)
 rw [k3] at g3 g4 g5;exact ⟨h2,m2,S',g1,g2,g3,g4,k5.trans g5,k6,AO k2 g5 k7⟩
def adY {m:Mp} {w:yi} {tmps:Array yf}:∀{ts:List Nat} {s s1:St} {S:Nat->Prop},cw O m S w s.tm tmps->bf O m S w s.hp s.ct->oO ts s=some s1->
  ∃S1,cw O m S1 w s1.tm tmps/\bf O m S1 w s1.hp s1.ct/\s1.base=s.base/\s1.ct=s.ct/\∀base,cB m S w s.hp m S1 w s1.hp base
 | [],s,s1,S,ht,hh,h=>by
  simp only [oO,yc] at h;subst h;exact ⟨S,ht,hh,rfl,rfl,fun _=>cB.refl⟩
 | t::r,s,s1,S,ht,hh,h=>by
  simp only [oO] at h
  cases hz:freeze deep s.hp (af s.tm t) with
  | none=>simp [hz] at h
  | some q=>
   obtain ⟨v,hp⟩:=q;simp only [hz] at h;obtain ⟨h1,h2,h3⟩:=Q6 (O:=O) hz;have hg:iJ s.hp s.ct hp s.ct:=⟨h1,yC _,fun id o ho=>(by
     have:=h2 id
     rw [ho] at this;simp only [tr] at this
     cases hq:ak s.hp id with
     | none=>rw [hq] at this;simp at this
     | some o'=>exact hh.bi id o' hq),fun id o ho _=>(by
     have:=h2 id
     rw [ho] at this;simp only [tr] at this
     cases hq:ak s.hp id with
     | none=>rw [hq] at this;simp at this
     | some o'=>exact ⟨o',rfl⟩)⟩
   obtain ⟨S',k1,k2,k3,k4⟩:=Ml hh hg;have Aj:cw O m S' w ((t,v)::s.tm) tmps:=by
    intro i;simp only [af]
    cases hb:yu t i with
    | true=>
     have:=yp hb
     subst this;simp only [ym];exact (h3 hp m S' w s.ct dw.refl k1).1 _ (mi (fun _ _ h=>h) k2 (fun _ _=>rfl) _ _ (ht t))
    | false=>
     simp only [yA];exact mi (fun _ _ h=>h) k2 (fun _ _=>rfl) _ _ (ht i)
   obtain ⟨S1,g1,g2,g3,g4,g5⟩:=adY (s:={s with tm:=(t,v)::s.tm,hp:=hp}) Aj k1 h;exact ⟨S1,g1,g2,g3,g4,fun base=>(k4 base).trans (g5 base)⟩
def abr (hO:eP O) (n:Nat) (hC:∀k,k<=n->nD O (ev O.prog O.aU k)) (h:Nat):∀(c:wI) (l k:Nat) (j:Nat),j<=n->∀(s:St) (ex:Ex) (s':St),
  bI O.prog O.aU (ev O.prog O.aU j) (comp O.P (O.hint h) c l k).1 s=some (ex,s')->Bf O h c s ex s':=by
 have refl:∀{s:St} {ex:Ex} {m:Mp} {S:Nat->Prop} {w:yi} {a:Act} {lo:Nat},cw O m S w s.tm a.tmps->bf O m S w s.hp s.ct->s.base<=s.ct->Marks lo S w a.defers->eZ O m S w s ex s a.tmps.size lo (qC ex) a w:=
  fun h1 h2 h3 h4=>⟨rfl,_,_,h1,h2,rfl,h3,cB.refl,rfl,h4⟩
 have TO:∀{self:cK} {s:St} {r:Ex×St},bI O.prog O.aU self (.aP [⟨none,none,bad⟩]) s=some r->False:=by
  intro self s r hv;simp [bI,dR,bad,bw,dF,aA] at hv
 intro c
 induction c with
 | skip=>
  intro l k j hj s ex s' hv ro lo m S w a dh ht hh hb hn bq fE cU;simp only [comp,bI,yc,yk] at hv;obtain ⟨rfl,rfl⟩:=hv;exact wpIn_skip (refl ht hh hb cU)
 | label x=>
  intro l k j hj s ex s' hv ro lo m S w a dh ht hh hb hn bq fE cU;simp only [comp,bI,yc,yk] at hv;obtain ⟨rfl,rfl⟩:=hv;exact wpIn_label (refl ht hh hb cU)
 | exit id=>
  intro l k j hj s ex s' hv ro lo m S w a dh ht hh hb hn bq fE cU;simp only [comp,bI,yc,yk] at hv;obtain ⟨rfl,rfl⟩:=hv
  exact wpIn_exit (refl (ex:= .exit id) ht hh hb cU)
 | ret=>
  intro l k j hj s ex s' hv ro lo m S w a dh ht hh hb hn bq fE cU;simp only [comp,bI,yc,yk] at hv;obtain ⟨rfl,rfl⟩:=hv
  exact wpIn_ret (refl (ex:= .ret) ht hh hb cU)
 | goto x=>intro l k j hj s ex s' hv;exact (TO (by simpa only [comp] using hv)).elim
 | refuse x=>intro l k j hj s ex s' hv;exact (TO (by simpa only [comp] using hv)).elim
 | region id ops d=>
  intro l k j hj s ex s' hv;simp only [comp] at hv;generalize hq:MF O.P (O.hint h) ops d k=q at hv;obtain ⟨r,k'⟩:=q;have main:∀{s s':St} {ex:Ex},bI O.prog O.aU (ev O.prog O.aU j) (.aP r) s=some (ex,s')->Bf O h (.region id ops d) s ex s':=by
   intro s s' ex hv;simp only [bI] at hv
   cases ho:dR O.prog O.aU (ev O.prog O.aU j) r s with
   | none=>simp [ho] at hv
   | some s1=>
    simp only [ho,yc,yk] at hv;obtain ⟨rfl,rfl⟩:=hv;exact aqU hO (hC j hj) h id ops d k (by rw [hq];exact ho)
  simp only at hv
  split at hv
  ·exact main hv
  ·rename_i t ts _;simp only [bI] at hv
   cases hf:oO (t::ts) s with
   | none=>simp [hf] at hv
   | some s1=>
    simp only [hf] at hv;intro ro lo m S w a dh ht hh hb hn bq fE cU;obtain ⟨S1,g1,g2,g3,g4,g5⟩:=adY ht hh hf;have h1:=main (s:=s1) (by simpa only [bI] using hv) ro lo m S1 w a dh g1 g2 (by rw [g3,g4];exact hb) hn bq fE (AO hh (g5 s.base) cU)
    refine wpIn_mono h1 (fun e a' w' hp=>?_)
    exact eZ.then (ex1:= .normal) g3 (g5 s.base) hp
 | seq x y ihx ihy=>
  intro l k j hj s ex s' hv ro lo m S w a dh ht hh hb hn bq fE cU;simp only [comp] at hv;generalize so:comp O.P (O.hint h) x l k=qx at hv;obtain ⟨x',l1,k1⟩:=qx;simp only at hv;generalize KE:comp O.P (O.hint h) y l1 k1=qy at hv;obtain ⟨y',l2,k2⟩:=qy;simp only [bI] at hv
  cases hx:bI O.prog O.aU (ev O.prog O.aU j) x' s with
  | none=>simp [hx] at hv
  | some r=>
   obtain ⟨ex1,s1⟩:=r;have h1:=ihx l k j hj s ex1 s1 (by rw [so];exact hx) ro lo m S w a dh ht hh hb hn bq fE cU
   refine wpIn_seq (wpIn_mono h1 ?_);rintro e a1 w1 ⟨rfl,m1,S1,g1,g2,g3,g4,g5,g6,g7⟩;have stop:ex1≠.normal->ex=ex1/\s'=s1:=by
    intro eK;rw [hx] at hv
    cases ex1 with
    | normal=>exact absurd rfl eK
    | ret=>simp only [yc,yk] at hv;exact ⟨hv.1.symm,hv.2.symm⟩
    | exit id=>simp only [yc,yk] at hv;exact ⟨hv.1.symm,hv.2.symm⟩
   cases ex1 with
   | normal=>
    simp only [hx] at hv;simp only [qC,Exit.then];have h2:=ihy l1 k1 j hj s1 ex s' (by rw [KE];exact hv) ro lo m1 S1 w1 a1 (L5 g5 dh) g1 g2 (by rw [g3];exact g4) (by rw [g6];exact hn) bq (xj fE g5.size) g7
    rw [g6] at h2
    exact wpIn_mono h2 (fun e a' w' hp=>eZ.then (ex1:= .normal) g3 g5 hp)
   | ret=>
    obtain ⟨rfl,rfl⟩:=stop (by simp);exact ⟨rfl,m1,S1,g1,g2,g3,g4,g5,g6,g7⟩
   | exit id=>
    obtain ⟨rfl,rfl⟩:=stop (by simp);exact ⟨rfl,m1,S1,g1,g2,g3,g4,g5,g6,g7⟩
 | cond x p q ihp ihq=>
  intro l k j hj s ex s' hv ro lo m S w a dh ht hh hb hn bq fE cU;simp only [comp] at hv;generalize so:comp O.P (O.hint h) p (l+1) k=qx at hv;obtain ⟨p',l1,k1⟩:=qx;simp only at hv;generalize KE:comp O.P (O.hint h) q l1 k1=qy at hv;obtain ⟨q',l2,k2⟩:=qy;simp only at hv;have main:∀(ex:Ex) (s':St),bI O.prog O.aU (ev O.prog O.aU j) (.cond (aT (O.hint h) x) p' q') s=some (ex,s')->(Code.cond x p q).wpIn (WF ro) 0 O.P (eZ O m S w s ex s' a.tmps.size lo) a w:=by
   intro ex s' hv;simp only [bI] at hv;have rx:=cI (hO.hint h) ht x
   split at hv
   ·rename_i t hx;rw [hx] at rx;simp only [aj] at rx
    cases t with
    | true=>
     simp only [ym] at hv;exact wpIn_cond_true rx (ihp (l+1) k j hj s ex s' (by rw [so];exact hv) ro lo m S w a dh ht hh hb hn bq fE cU)
    | false=>
     simp only [yA] at hv;exact wpIn_cond_false rx (ihq l1 k1 j hj s ex s' (by rw [KE];exact hv) ro lo m S w a dh ht hh hb hn bq fE cU)
   ·cases hv
  cases E9:(O.hint h).out l with
  | none=>rw [E9] at hv;exact main ex s' hv
  | some live=>
   rw [E9] at hv;simp only at hv;rw [show bI O.prog O.aU (ev O.prog O.aU j) (.seq (.cond (aT (O.hint h) x) p' q') (.kp live)) s=match bI O.prog O.aU (ev O.prog O.aU j) (.cond (aT (O.hint h) x) p' q') s with | some (.normal,s1)=>some (.normal,bD live s1) | r=>r from rfl] at hv
   cases hx:bI O.prog O.aU (ev O.prog O.aU j) (.cond (aT (O.hint h) x) p' q') s with
   | none=>simp [hx] at hv
   | some r=>
    obtain ⟨ex1,s1⟩:=r;have h1:=main ex1 s1 hx;rw [hx] at hv
    cases ex1 with
    | normal=>
     simp only [yc,yk] at hv;obtain ⟨rfl,rfl⟩:=hv;exact wpIn_mono h1 (fun e a' w' hp=>eZ.df live hp)
    | ret=>simp only [yc,yk] at hv;obtain ⟨rfl,rfl⟩:=hv;exact h1
    | exit id=>simp only [yc,yk] at hv;obtain ⟨rfl,rfl⟩:=hv;exact h1
 | block id x ih=>
  intro l k j hj s ex s' hv ro lo m S w a dh ht hh hb hn bq fE cU;simp only [comp] at hv;generalize so:comp O.P (O.hint h) x l k=qx at hv;obtain ⟨x',r⟩:=qx;simp only at hv;have main:∀(ex:Ex) (s':St),bI O.prog O.aU (ev O.prog O.aU j) (.aK id x') s=some (ex,s')->(Code.block id x).wpIn (WF ro) 0 O.P (eZ O m S w s ex s' a.tmps.size lo) a w:=by
   intro ex s' hv;simp only [bI] at hv
   cases hx:bI O.prog O.aU (ev O.prog O.aU j) x' s with
   | none=>simp [hx] at hv
   | some q=>
    obtain ⟨ex1,s1⟩:=q;have h1:=ih l k j hj s ex1 s1 (by rw [so];exact hx) ro lo m S w a dh ht hh hb hn bq fE cU
    refine wpIn_block (wpIn_mono h1 ?_);rintro e a1 w1 ⟨rfl,g⟩
    cases ex1 with
    | normal=>
     simp only [hx,yc,yk] at hv;obtain ⟨rfl,rfl⟩:=hv;exact ⟨rfl,g⟩
    | ret=>
     simp only [hx,yc,yk] at hv;obtain ⟨rfl,rfl⟩:=hv;exact ⟨rfl,g⟩
    | exit i=>
     simp only [hx] at hv
     cases Px:yu i id with
     | true=>
      rw [Px] at hv;simp only [ym,yc,yk] at hv;obtain ⟨rfl,rfl⟩:=hv
      have:=yp Px
      subst this;simp only [qC,Exit.inBlock,y5];exact ⟨rfl,g⟩
     | false=>
      rw [Px] at hv;simp only [yA,yc,yk] at hv;obtain ⟨rfl,rfl⟩:=hv;have eK:i≠id:=fun e=>by subst e;simp at Px
      simp only [qC,Exit.inBlock,eK,yO];exact ⟨rfl,g⟩
  have atx:∀live:List Nat,bI O.prog O.aU (ev O.prog O.aU j) (.seq (.aK id x') (.kp live)) s=some (ex,s')->(Code.block id x).wpIn (WF ro) 0 O.P (eZ O m S w s ex s' a.tmps.size lo) a w:=by
   intro live hv;rw [show bI O.prog O.aU (ev O.prog O.aU j) (.seq (.aK id x') (.kp live)) s=match bI O.prog O.aU (ev O.prog O.aU j) (.aK id x') s with | some (.normal,s1)=>some (.normal,bD live s1) | r=>r from rfl] at hv
   cases hx:bI O.prog O.aU (ev O.prog O.aU j) (.aK id x') s with
   | none=>simp [hx] at hv
   | some r=>
    obtain ⟨ex1,s1⟩:=r;have h1:=main ex1 s1 hx;rw [hx] at hv
    cases ex1 with
    | normal=>
     simp only [yc,yk] at hv;obtain ⟨rfl,rfl⟩:=hv;exact wpIn_mono h1 (fun e a' w' hp=>eZ.df live hp)
    | ret=>simp only [yc,yk] at hv;obtain ⟨rfl,rfl⟩:=hv;exact h1
    | exit id=>simp only [yc,yk] at hv;obtain ⟨rfl,rfl⟩:=hv;exact h1
  split at hv
  ·exact atx _ hv
  ·exact main ex s' hv
 | loop x ih=>
  intro l k j hj s ex s' hv;simp only [comp] at hv;generalize so:comp O.P (O.hint h) x (l+1) k=qx at hv;obtain ⟨x',r⟩:=qx;simp only at hv;have rounds:∀(j:Nat),j<=n->∀(s:St) (ex:Ex) (s':St),bI O.prog O.aU (ev O.prog O.aU j) (.loop ((O.hint h).live l) x') s=some (ex,s')->∃K,∀(ro:Option Nat) (lo:Nat) (m:Mp) (S:Nat->Prop) (w:yi) (a:Act),zd ro w->cw O m S w s.tm a.tmps->bf O m S w s.hp s.ct->s.base<=s.ct->(O.hint h).n<=a.tmps.size->O.w0.heap.size<=lo->lo<=w.heap.size->Marks lo S w a.defers->
    Code.roundsIn (WF ro) 0 O.P x (eZ O m S w s ex s' a.tmps.size lo) K a w:=by
   intro j
   induction j with
   | zero=>
    intro hj s ex s' hv;simp only [bI] at hv
    cases hx:bI O.prog O.aU (ev O.prog O.aU 0) x' (bD ((O.hint h).live l) s) with
    | none=>simp [hx] at hv
    | some q=>
     obtain ⟨ex1,s1⟩:=q;have stop:ex1≠.normal->ex=ex1/\s'=s1:=by
      intro eK;rw [hx] at hv
      cases ex1 with
      | normal=>exact absurd rfl eK
      | ret=>simp only [yc,yk] at hv;exact ⟨hv.1.symm,hv.2.symm⟩
      | exit id=>simp only [yc,yk] at hv;exact ⟨hv.1.symm,hv.2.symm⟩
     refine ⟨1,fun ro lo m S w a dh ht hh hb hn bq fE cU=>?_⟩;rw [roundsIn_succ];obtain ⟨m1,c1,c2,c3,c4,c5⟩:=QQ (live:=(O.hint h).live l) ht hh hb;have h1:=ih (l+1) k 0 hj _ ex1 s1 (by rw [so];exact hx) ro lo m1 S w a dh c1 c2 (by rw [c3];exact c4) hn bq fE cU
     refine wpIn_mono h1 ?_;rintro e a1 w1 hp;have ao:=eZ.then (O:=O) (m:=m) (S:=S) (w:=w) (s:=s) (ex1:= .normal) c3 c5 hp;obtain ⟨rfl,_⟩:=hp
     cases ex1 with
     | normal=>simp only [hx,Ig] at hv;cases hv
     | ret=>obtain ⟨rfl,rfl⟩:=stop (by simp);exact ao
     | exit id=>obtain ⟨rfl,rfl⟩:=stop (by simp);exact ao
   | succ j ihj=>
    intro hj s ex s' hv;simp only [bI] at hv
    cases hx:bI O.prog O.aU (ev O.prog O.aU (j+1)) x' (bD ((O.hint h).live l) s) with
    | none=>simp [hx] at hv
    | some q=>
     obtain ⟨ex1,s1⟩:=q;have stop:ex1≠.normal->ex=ex1/\s'=s1:=by
      intro eK;rw [hx] at hv
      cases ex1 with
      | normal=>exact absurd rfl eK
      | ret=>simp only [yc,yk] at hv;exact ⟨hv.1.symm,hv.2.symm⟩
      | exit id=>simp only [yc,yk] at hv;exact ⟨hv.1.symm,hv.2.symm⟩
     have more:∃K,ex1= .normal->∀(ro:Option Nat) (lo:Nat) (m:Mp) (S:Nat->Prop) (w:yi) (a:Act),zd ro w->cw O m S w s1.tm a.tmps->bf O m S w s1.hp s1.ct->s1.base<=s1.ct->(O.hint h).n<=a.tmps.size->O.w0.heap.size<=lo->lo<=w.heap.size->Marks lo S w a.defers->
       Code.roundsIn (WF ro) 0 O.P x (eZ O m S w s1 ex s' a.tmps.size lo) K a w:=by
      cases ex1 with
      | normal=>
       rw [hx] at hv;have eL:ev O.prog O.aU (j+1) (.loop ((O.hint h).live l) x') s1=some (ex,s'):=hv;rw [Ih] at eL;obtain ⟨K,hK⟩:=ihj (by omega) s1 ex s' eL;exact ⟨K,fun _=>hK⟩
      | ret=>exact ⟨0,fun h=>by cases h⟩
      | exit id=>exact ⟨0,fun h=>by cases h⟩
     obtain ⟨K,hK⟩:=more;refine ⟨K+1,fun ro lo m S w a dh ht hh hb hn bq fE cU=>?_⟩;rw [roundsIn_succ];obtain ⟨m1,c1,c2,c3,c4,c5⟩:=QQ (live:=(O.hint h).live l) ht hh hb;have h1:=ih (l+1) k (j+1) hj _ ex1 s1 (by rw [so];exact hx) ro lo m1 S w a dh c1 c2 (by rw [c3];exact c4) hn bq fE cU
     refine wpIn_mono h1 ?_;rintro e a1 w1 hp;have ao:=eZ.then (O:=O) (m:=m) (S:=S) (w:=w) (s:=s) (ex1:= .normal) c3 c5 hp;obtain ⟨rfl,_⟩:=hp
     cases ex1 with
     | normal=>
      simp only [qC,Exit.then];obtain ⟨_,m2,S2,g1,g2,g3,g4,g5,g6,g7⟩:=ao;have h2:=hK rfl ro lo m2 S2 w1 a1 (L5 g5 dh) g1 g2 (by rw [g3];exact g4) (by rw [g6];exact hn) bq (xj fE g5.size) g7
      rw [g6] at h2;revert h2;generalize hA:a.tmps.size=sz;intro h2;have step:∀(K:Nat) (a':Act) (w':yi),Code.roundsIn (WF ro) 0 O.P x (eZ O m2 S2 w1 s1 ex s' sz lo) K a' w'->Code.roundsIn (WF ro) 0 O.P x (eZ O m S w s ex s' sz lo) K a' w':=by
       intro K
       induction K with
       | zero=>intro a' w' BT;exact BT
       | succ K ihK=>
        intro a' w' BT;rw [roundsIn_succ] at BT ⊢;refine wpIn_mono BT (fun e a'' Dr hq=>?_)
        cases e with
        | normal=>exact ihK a'' Dr hq
        | exit id=>exact eZ.then (ex1:= .normal) g3 g5 hq
        | goto x=>exact eZ.then (ex1:= .normal) g3 g5 hq
        | ret=>exact eZ.then (ex1:= .normal) g3 g5 hq
        | panic x=>exact eZ.then (ex1:= .normal) g3 g5 hq
        | outgrown=>exact eZ.then (ex1:= .normal) g3 g5 hq
      exact step K a1 w1 h2
     | ret=>obtain ⟨rfl,rfl⟩:=stop (by simp);exact ao
     | exit id=>obtain ⟨rfl,rfl⟩:=stop (by simp);exact ao
  obtain ⟨K,hK⟩:=rounds j hj s ex s' hv;intro ro lo m S w a dh ht hh hb hn bq fE cU;exact wpIn_loop_rounds K (hK ro lo m S w a dh ht hh hb hn bq fE cU)
 | scope x ih=>
  intro l k j hj s ex s' hv ro lo m S w a dh ht hh hb hn bq fE cU;simp only [comp] at hv;exact ajm (ih l k j hj s ex s' hv ro lo m S w a dh ht hh hb hn bq fE cU) (fun l a w=>eZ.none l)
 | rangeFunc f ps as_ body iha ihb=>
  intro l k j hj s ex s' hv;simp only [comp] at hv;generalize so:comp O.P (O.hint h) as_ l k=qx at hv;obtain ⟨x',l1,k1⟩:=qx;simp only at hv;generalize KE:comp O.P (O.hint h) body l1 k1=qy at hv;obtain ⟨y',l2,k2⟩:=qy;simp only at hv
  cases ha:zp (O.hint h).n ps.toList with
  | false=>rw [ha] at hv;exact (TO hv).elim
  | true=>
   rw [ha] at hv;exact atw hO (hC j hj) ⟨l,k,by rw [so]⟩ ⟨l1,k1,by rw [KE]⟩ ha hv
end
end
section
open Go
section
variable {O:bA} {m:Mp} {S:Nat->Prop} {w:yi}
def Zv:∀(vals:List AV) (j i:Nat),af (fG j vals) (j+i)=vals.getD i .undef
 | [],j,i=>by simp [fG,af]
 | v::r,j,i=>by
  cases i with
  | zero=>simp [fG,af]
  | succ i=>
   simp only [fG,af];have hb:yu j (j+(i+1))=false:=by
    cases hq:yu j (j+(i+1)) with
    | false=>rfl
    | true=>have:=yp hq;omega
   rw [hb,show j+(i+1)=j+1+i by omega];rw [Zv r (j+1) i]
   simp
def Zw {vals:List AV} {args:Array yf} (n:Nat) (h:au O.ai m S w vals args.toList):cw O m S w (fG 0 vals) (args++vm n undef):=by
 intro i
 have:=Zv vals 0 i
 rw [yd] at this;rw [this,List.getD_eq_getElem?_getD]
 cases hv:vals[i]? with
 | none=>simp only [Option.getD_none,aj]
 | some v=>
  obtain ⟨u,h1,h2⟩:=RF h hv;have hl:i<args.size:=by
   grind
  have:(args++vm n undef).getD i undef=u:=by
   rw [wM,Array.getElem?_append_left hl]
   grind
  grind
def Fa (tmps:Array yf):ybi->Sem yf
 | .tmp t=>pure (tmps.getD t undef)
 | .cell a t=>do loadVar t (<-asAddr (tmps.getD a undef))
def ajn (fn:tn) (tmps:Array yf):results fn tmps=(do let vs <-fn.results.mapM (Fa tmps);pure (if h:vs.size=1 then vs[0] else .tuple vs)):=by
 rfl
def QS {s:St} {ct:Nat} {tmps:Array yf} (hh:bf O m S w s.hp ct) (ht:cw O m S w s.tm tmps):∀{rs:List ybi} {rv:List RV} {vs:List AV},oF O.P rs=some rv->lJ s rv=some vs->
  ∃us,(rs.mapM (Fa tmps)).run O.P w= .ok us w/\au O.ai m S w vs us
 | [],rv,vs,h1,h2=>by
  simp only [oF,yc] at h1;subst h1;simp only [lJ,yc] at h2;subst h2;exact ⟨[],by simp,by simp [au]⟩
 | .tmp t::rs,rv,vs,h1,h2=>by
  simp only [oF] at h1
  cases hc:oF O.P rs with
  | none=>simp [hc] at h1
  | some l=>
   simp only [hc,yc] at h1;subst h1;simp only [lJ,results1] at h2
   cases hl:lJ s l with
   | none=>simp [hl] at h2
   | some Vs=>
    simp only [hl,yc] at h2;subst h2;obtain ⟨us,g1,g2⟩:=QS hh ht hc hl;refine ⟨tmps.getD t undef::us,?_,by simp only [au];exact ⟨_,_,rfl,ht t,g2⟩⟩
    rw [vC];simp only [Fa,Sem.run_bind,Sem.run_pure,Result.andThen_ok];rw [g1];rfl
 | .cell a t::rs,rv,vs,h1,h2=>by
  simp only [oF] at h1
  cases hz:cT O.P t with
  | none=>simp [hz] at h1
  | some sz=>
   cases KF:dZ O.P t with
   | none=>simp [hz,KF] at h1
   | some ag=>
    cases hc:oF O.P rs with
    | none=>simp [hz,KF,hc] at h1
    | some l=>
     simp only [hz,KF,hc,yc] at h1;subst h1;simp only [lJ] at h2
     cases cp:results1 s (.cell a sz ag) with
     | none=>simp [cp] at h2
     | some v=>
      cases hl:lJ s l with
      | none=>simp [cp,hl] at h2
      | some Vs=>
       simp only [cp,hl,yc] at h2;subst h2;obtain ⟨us,g1,g2⟩:=QS hh ht hc hl;have ra:=ht a;have key:∃b o u,tmps.getD a undef= .pointer (some ⟨b,o,none⟩)/\(loadVar t ⟨b,o,none⟩).run O.P w= .ok u w/\aj O.ai m S w v u:=by
        simp only [results1] at cp;cases hta:af s.tm a<;>rw [hta] at cp ra<;>simp only [reduceCtorEq] at cp
        ·rename_i id o;simp only [aj] at ra;obtain ⟨p,hm,hp⟩:=ra
         cases hg:ak s.hp id with
         | none=>simp [hg] at cp
         | some ob=>
          cases ob<;>simp only [hg,reduceCtorEq] at cp
          have VW:=RE (o:=0) (n:=0) hh hg hm;obtain ⟨u,q1,q2⟩:=MH hz KF (qZ o _ p.b p.o VW) cp;exact ⟨p.b,p.o+o,u,hp,q1,q2⟩
        ·rename_i cs;simp only [aj] at ra;obtain ⟨b,o,hp,_,_,VW⟩:=ra;obtain ⟨u,q1,q2⟩:=MH hz KF VW cp;exact ⟨b,o,u,hp,q1,q2⟩
       obtain ⟨b,o,u,q1,q2,q3⟩:=key;refine ⟨u::us,?_,by simp only [au];exact ⟨_,_,rfl,q3,g2⟩⟩
       rw [vC]
       have:(Fa tmps (.cell a t)).run O.P w= .ok u w:=by
        simp only [Fa];rw [q1];simp [asAddr,q2]
       rw [Sem.run_bind,this,Result.andThen_ok,Sem.run_bind,g1];rfl
def aiK {s:St} {ct:Nat} {tmps:Array yf} {fn:tn} {rv:List RV} {v:AV} (hh:bf O m S w s.hp ct) (ht:cw O m S w s.tm tmps) (h1:oF O.P fn.results.toList=some rv) (h2:gN s rv=some v):
  ∃u,(results fn tmps).run O.P w= .ok u w/\aj O.ai m S w v u:=by
 unfold gN at h2
 cases hl:lJ s rv with
 | none=>simp [hl] at h2
 | some vs=>
  obtain ⟨us,g1,g2⟩:=QS hh ht h1 hl;have hlen:=iY _ _ g2;have hm:(fn.results.mapM (Fa tmps)).run O.P w= .ok us.toArray w:=by
   rw [Array.mapM_eq_mapM_toList];simp [g1]
  have fN:(results fn tmps).run O.P w= .ok (if h:us.toArray.size=1 then us.toArray[0] else .tuple us.toArray) w:=by
   rw [ajn,Sem.run_bind,hm];rfl
  rw [hl] at h2
  split at h2
  ·rename_i v' fZ;simp only [yc] at fZ h2;subst fZ;simp only [au] at g2
   grind
  ·rename_i eD eK fZ;simp only [yc] at fZ h2;subst fZ;subst h2;have h1:¬us.toArray.size=1:=by
    intro h
    have:vs.length=1:=by simp_all
    cases vs with
    | nil=>simp at this
    | cons x t=>
     cases t with
     | nil=>exact eK x rfl
     | cons y t=>simp at this
   simp only [aj]
   grind
  ·grind
def Rh {s:St} {tmps:Array yf} {fn:tn} {rv:List RV} {v:AV} {m0:Mp} {S0:Nat->Prop} {w0:yi} {hp0:Hp} {Py:Nat} (h1:oF O.P fn.results.toList=some rv) (h2:gN s rv=some v) (fR:Py<=s.ct):∀(rs:List Nat) (w:yi),
  rs.Nodup->(∀r,r∈rs->w.heap[r]? =some (.deferred (some []))/\¬S r/\w0.heap.size<=r)->O.w0.heap.size<=w0.heap.size->bf O m S w s.hp s.ct->cw O m S w s.tm tmps->cB m0 S0 w0 hp0 m S w s.hp Py->
  ybk Fence.wide 0 O.P fn tmps (sO O m0 S0 w0 hp0 Py v s.hp s.ct) (rs.map (fun r=>{target:= .collected r,args:=#[]})) .returning w
 | [],w,_,_,_,hh,ht,hf=>by
  obtain ⟨u,g1,g2⟩:=aiK hh ht h1 h2;exact ⟨u,g1,u,m,S,rfl,hh,fR,g2,hf⟩
 | r::rs,w,lX,hr,bq,hh,ht,hf=>by
  obtain ⟨gV,eH⟩:=List.nodup_cons.1 lX;obtain ⟨a1,a2,a3⟩:=hr r List.mem_cons_self;have fI:=D9 w r (.deferred none);have gW:¬eE m s.hp r:=fun ho=>aao hh ho _ a1
  have BT:=YG hh fI a2 gW (xj bq a3)
  have aX:gm S w {w with heap:=w.heap.setIfInBounds r (.deferred none)}:=fun b hb=>fI.other b (fun e=>a2 (e▸hb))
  have n7:cB m0 S0 w0 hp0 m S {w with heap:=w.heap.setIfInBounds r (.deferred none)} s.hp Py:=by
   refine ⟨hf.os,hf.tape,hf.output,by rw [fI.size];exact hf.size,fun b hb ho=>(fI.other b (by omega)).trans (hf.same b hb ho),hf.sub,fun b hb=>(fI.other b (fun e=>a2 (e▸hf.sub b hb))).trans (hf.still b hb),hf.new,hf.own,hf.old,fun b x hb=>?_⟩
   obtain ⟨x',hx⟩:=hf.loops b x hb;exact ⟨x',(fI.other b (fun e=>by subst e;rw [a1] at hx;cases hx)).trans hx⟩
  refine ⟨by simp,.inl ⟨r,_,rfl,?_,Rh h1 h2 fR rs _ eH (fun r' bX=>?_) bq BT (AN (fun _ _ h=>h) (fun _ h=>h) aX ht) n7⟩⟩
  ·simp only [Instr.takeDeferred,Sem.run_bind,YH (P:=O.P) a1 (fun _ _ _=>by simp),Result.andThen_ok,LP (P:=O.P) a1 (fun _ _ _=>by simp),Sem.run_pure]
  ·obtain ⟨b1,b2,b3⟩:=hr r' (List.mem_cons_of_mem _ bX);exact ⟨(fI.other r' (fun e=>gV (e▸bX))).trans b1,b2,b3⟩
end
section
variable {O:bA} {self:cK}
def aty (hO:eP O) (hS:∀v s ex s',self v s=some (ex,s')->∀c h l k,(comp O.P (O.hint h) c l k).1=v->Bf O h c s ex s') {n:Nat} {F:aD} (hF:O.prog n=some F) {hp:Hp} {ct:Nat} {vals:List AV} {ex:Ex} {s:St}
  (hv:self F.body ⟨fG 0 vals,hp,ct,ct⟩=some (ex,s)) (hex:ex= .normal\/ex= .ret) {v:AV} (hr:gN s F.dT=some v):Be O n hp ct vals v s.hp s.ct:=by
 intro m S w args hh hX;obtain ⟨fn,q1,q2,q3⟩:=hO.prog n F hF;obtain ⟨c,q4,q5,q6,q7⟩:=QD q2;refine .inl ⟨Mq q1 (by rw [q4];rfl) q3,?_⟩
 have hc:=hS _ _ _ _ hv c n 0 0 q5.symm;have hw:=hc none w.heap.size m S w {tmps:=args++vm (fn.ntmps-args.size) undef,defers:=[]} (fun l hl=>by cases hl) (Zw _ hX) hh (yC _) (by simp;omega) hh.gA (yC _) ⟨[],rfl,by simp,by simp⟩
 refine callsIn_of_wp_marks (F:=Fence.wide) q1 q4 trivial (wpIn_mono hw ?_);rintro e a' w' ⟨rfl,m',S',k1,k2,k3,k4,k5,k6,rs,k7,k8,k9⟩;have main:ybk Fence.wide 0 O.P fn a'.tmps (sO O m S w hp ct v s.hp s.ct) a'.defers .returning w':=by
  rw [k7];exact Rh q6 hr k4 rs w' k8 k9 hh.gA k2 k1 k5
 rcases hex with rfl | rfl
 ·exact main
 ·exact main
def AY.mono {P:y6} {f:tk} {args:Array yf} {w:yi} {R R':Ending->yi->Prop} (h:AY P f args w R) (hr:∀e w',R e w'->R' e w'):AY P f args w R':=by
 rcases h with ⟨h1,h2⟩ | ⟨u,w',h1,h2⟩
 ·exact .inl ⟨h1,CallsIn.mono h2 hr⟩
 ·exact .inr ⟨u,w',h1,hr _ _ h2⟩
def akz {w:yi} {S:Nat->Prop} (hg:Bc O w) (hs:∀b,S b->b<w.heap.size):bf O fq S w [] 0:=
 ⟨(fun id o p h _=>by simp [ak] at h),(fun id p h=>by cases h),(fun i j oi oj pi pj h=>by simp [ak] at h),hs,(fun id p h=>by cases h),(fun id p h=>by cases h),hg.1,hg.2,(fun id o h=>by simp [ak] at h)⟩
def RQ {b:Nat} (h:eE fq [] b):False:=by
 obtain ⟨_,_,_,h,_⟩:=h;simp [ak] at h
def Qz {n:Nat} {vals:List AV} {v r:AV} {s:St} (h:Be O n [] 0 vals v s.hp s.ct) (hr:result s.hp v=some r):eX O n vals r:=by
 intro w S args hg hs hX hp;refine AY.mono (h fq S w args (akz hg hs) hX) ?_;rintro e w' ⟨u,m',S',rfl,k1,k2,k3,k4⟩;have bq:∀b,eE m' s.hp b->w.heap.size<=b:=fun b hb=>(k4.own b hb).elim (fun h=>(RQ h).elim) (fun h=>h)
 obtain ⟨S2,g1,g2,g3,g4⟩:=akq (lo:=w.heap.size) k1 hr k3 bq;refine ⟨u,S2,rfl,⟨k4.os,k4.tape,k4.output,k4.size,fun b hb=>k4.same b hb RQ⟩,fun b hb=>g1 b (k4.sub b hb),fun b hb=>?_,g3,g4⟩;rcases g2 b hb with h | h
 ·rcases k4.new b h with h | h | h
  ·exact .inl h
  ·exact (RQ h).elim
  ·exact .inr h
 ·exact .inr (bq b h)
def ajo (hO:eP O) (hS:∀v s ex s',self v s=some (ex,s')->∀c h l k,(comp O.P (O.hint h) c l k).1=v->Bf O h c s ex s'):nD O self:=by
 have heap:∀(n:Nat) (F:aD),O.prog n=some F->∀(hp:Hp) (ct:Nat) (vals:List AV) (ex:Ex) (s:St) (v:AV),self F.body ⟨fG 0 vals,hp,ct,ct⟩=some (ex,s)->(ex= .normal\/ex= .ret)->gN s F.dT=some v->Be O n hp ct vals v s.hp s.ct:=
  fun n F hF hp ct vals ex s v h1 h2 h3=>aty hO hS hF h1 h2 h3
 refine ⟨?_,?_,fun hp ct l xs v ao bg hv=>amz hS hv⟩
 ·intro n vals r hv;unfold bO at hv
  cases hL:O.aU.pure n with
  | some sp=>rw [hL] at hv;exact hO.aU n sp vals r hL hv
  | none=>
   simp only [hL] at hv
   cases hF:O.prog n with
   | none=>simp [hF] at hv
   | some F=>
    simp only [hF] at hv
    split at hv
    ·rename_i s hb
     cases hr:gN s F.dT with
     | none=>simp [hr] at hv
     | some v=>simp only [hr] at hv;exact Qz (heap n F hF [] 0 vals .normal s v hb (.inl rfl) hr) hv
    ·rename_i s hb
     cases hr:gN s F.dT with
     | none=>simp [hr] at hv
     | some v=>simp only [hr] at hv;exact Qz (heap n F hF [] 0 vals .ret s v hb (.inr rfl) hr) hv
    ·cases hv
 ·intro hp ct n vals v ao bg hv;unfold iH at hv
  cases hL:O.aU.heap n with
  | some sp=>rw [hL] at hv;exact hO.E8 n sp hp ct vals v ao bg hL hv
  | none=>
   simp only [hL] at hv
   cases hF:O.prog n with
   | none=>simp [hF] at hv
   | some F=>
    grind
def Yc (hO:eP O):∀n,nD O (ev O.prog O.aU n):=by
 intro n
 induction n using Nat.strongRecOn with
 | _ n ih=>
  refine ajo hO (fun v s ex s' hv c h l k hc=>?_)
  cases n with
  | zero=>rw [Ig] at hv;cases hv
  | succ n=>
   rw [Ih,<-hc] at hv;exact abr hO n (fun k hk=>ih k (by omega)) h c l k n (yC _) s ex s' hv
def sound (hO:eP O) {n f:Nat} {vals:List AV} {r:AV} (h:Vt O.prog O.aU n f vals=some r):eX O f vals r:=(Yc hO n).pure f vals r h
end
end
end VE
