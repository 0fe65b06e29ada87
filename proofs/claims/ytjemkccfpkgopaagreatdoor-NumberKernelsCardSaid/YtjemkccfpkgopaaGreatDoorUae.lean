import Derived.LoopNIn
import Derived.RangeFuncIn
import Derived.Lib.Index
import Derived.Lib.ItoaNum
import Derived.Lib.Atoi
import Derived.Lib.BitFns
import Derived.Lib.Repeat
import Derived.Lib.SlTrimSet
import Derived.Shelf.Strings.Cut
import Derived.Shelf.Strings.Prefix
import Derived.Shelf.Small.Bits
import Derived.RowKit
import Derived.Test.YtjemkccfpkgopaaGreatDoorUad
import Derived.Test.YtjemkccfpkgopaaGreatDoorUaa
set_option linter.all false
set_option maxRecDepth 100000
open Array renaming getD_eq_getD_getElem?→wV,getElem?_eq_some_iff→xm,replicate→vK
open Bool renaming and_eq_true→ye,false_eq_true→yJ
open Go renaming Calls→xN,Code→wL,Deferred→yby,Exit→uh,Func→tD,FuncId→tI,LeavesInM→ybL,Loop→uB,Oper→y5,Program→y8,ResultVar→ybI,Value→yf,World→yh
open Int renaming natCast_nonneg→tn,ofNat→yaC
open List renaming length_map→yk,mapM_cons→vU,map_append→xy,map_cons→xe,map_reverse→tx
open Nat renaming beq→yx,ble→yF,ble_eq_true_of_le→yt,blt→yP,eq_of_beq_eq_true→ym,le_of_ble_eq_true→yA,le_refl→yo,le_trans→xf,lt_of_lt_of_le→yV,zero_add→yg,zero_le→uG
open Option.some renaming injEq→yd
open Prod.mk renaming injEq→yj
open UInt8 renaming ofNat→ybe,toNat→y9,toNat_ofNat'→tW
namespace VE
section
open Go
def am4 {F:Fence} {n:Nat} {P:y8} {Q:uh->Act->yh->Prop} {a:Act} {w:yh} {c:wL} (h:c.wpIn F n P Q a w) (hg:∀l a w,¬Q (.goto l) a w):(Code.scope c).wpIn F n P Q a w:=by
 intro b k cs cD hb hr;have h0:(lone (b.atR a (.code (.scope c)::k)) cs w).fenced P F:=fenced_calm hb hr rfl;have s0:step P (lone (b.atR a (.code (.scope c)::k)) cs w)= .next (lone (b.atR a (.code c:: .inScope c::k)) cs w):=step_lone_go (by simp [stepG,stepG.exec,Frame.atR]);obtain ⟨e,a₁,w₁,hq,Cg⟩:=h b (.inScope c::k) cs cD hb hr;have hx:∀id,exitTo id (.inScope c::k)=exitTo id k:=fun id=>by simp [exitTo]
 cases e with
 | normal=>
  have s1:step P (lone (b.atR a₁ (.inScope c::k)) cs w₁)= .next (lone (b.atR a₁ k) cs w₁):=step_lone_go (by simp [stepG,stepG.exec,Frame.atR]);exact ⟨.normal,a₁,w₁,hq,.head h0 s0 (StepsIn.trans Cg (.one (fenced_calm hb hr rfl) s1))⟩
 | exit id=>
  exact ⟨.exit id,a₁,w₁,hq,fun k' hk=> .head h0 s0 (Cg.1 k' (by rw [hx];exact hk)),fun bR hk=>let ⟨k₁,h1,h2⟩:=Cg.2 bR (by rw [hx];exact hk);⟨k₁,h1,.head h0 s0 h2⟩⟩
 | goto l=>exact (hg _ _ _ hq).elim
 | ret=>exact ⟨_,a₁,w₁,hq,.of_steps (.one h0 s0) Cg⟩
 | panic ch=>exact ⟨_,a₁,w₁,hq,.of_steps (.one h0 s0) Cg⟩
 | outgrown=>exact ⟨_,a₁,w₁,hq,.of_steps (.one h0 s0) Cg⟩
def pR:Ex->uh
 | .normal=> .normal
 | .ret=> .ret
 | .exit id=> .exit id
def Marks (lo:Nat) (S:Nat->Prop) (w:yh) (ds:List yby):Prop:=∃rs:List Nat,ds=rs.map (fun r=>{target:= .collected r,args:=#[]})/\rs.Nodup/\
 ∀r,r∈rs->w.heap[r]? =some (.deferred (some []))/\¬S r/\lo<=r
def su (ro:Option Nat) (w:yh):Prop:=∀l,ro=some l->∃r:uB,w.heap[l]? =some (.loop r)
section
variable {O:bl} {m:Mp} {S:Nat->Prop} {w:yh} {hp:Hp} {ct:Nat}
def abX (hh:aT O m S w hp ct) {b:Nat} (h:dR m hp b):∀x,w.heap[b]?≠some (.deferred x):=by
 intro x hx;obtain ⟨id,o,p,h1,h2,rfl⟩:=h;have h3:=hh.obj id o p h1 h2
 cases o with
 | cells rw pu ex sz cs=>obtain ⟨q,arr,t,g1,g2,_⟩:=h3;rw [h2] at g1;injection g1 with g1;subst g1;rw [hx] at g2;cases g2
 | mp rw ks vs=>obtain ⟨q,es,clock,g1,g2,_⟩:=h3;rw [h2] at g1;injection g1 with g1;subst g1;rw [hx] at g2;cases g2
 | si s pos=>obtain ⟨q,t,g1,g2,_⟩:=h3;rw [h2] at g1;injection g1 with g1;subst g1;rw [hx] at g2;cases g2
 | lp tm ps cJ body st pe=>obtain ⟨q,l,hi,g1,g2,_⟩:=h3;rw [h2] at g1;injection g1 with g1;subst g1;rw [hx] at g2;cases g2
def zQ (hh:aT O m S w hp ct) {m':Mp} {S':Nat->Prop} {w':yh} {ap:Hp} {base lo:Nat} (hf:b8 m S w hp m' S' w' ap base) {ds:List yby} (h:Marks lo S w ds):Marks lo S' w' ds:=by
 obtain ⟨rs,h1,h2,h3⟩:=h;refine ⟨rs,h1,h2,fun r hr=>?_⟩;obtain ⟨this,h4,h5⟩:=h3 r hr;have aW:=(xm.1 this).1;have nI:¬dR m hp r:=fun ho=>abX hh ho _ this
 refine ⟨(hf.same r aW nI).trans this,fun hs=>?_,h5⟩;rcases hf.new r hs with h | h | h
 ·grind
 ·grind
 ·omega
def K4 {m':Mp} {S':Nat->Prop} {w':yh} {ap:Hp} {base:Nat} {ro:Option Nat} (hf:b8 m S w hp m' S' w' ap base) (h:su ro w):su ro w':=fun l hl=>
 let ⟨r,hr⟩:=h l hl
 hf.loops l r hr
def eC (O:bl) (m:Mp) (S:Nat->Prop) (w:yh) (s:St) (ex:Ex) (s':St) (n lo:Nat) (e:uh) (a':Act) (w':yh):Prop:=
 e=pR ex/\∃m' S',b7 O m' S' w' s'.tm a'.tmps/\aT O m' S' w' s'.hp s'.ct/\s'.base=s.base/\s.base<=s'.ct/\b8 m S w s.hp m' S' w' s'.hp s.base/\a'.tmps.size=n/\Marks lo S' w' a'.defers
def An (O:bl) (h:Nat) (c:wL) (s:St) (ex:Ex) (s':St):Prop:=
 ∀(ro:Option Nat) (lo:Nat) (m:Mp) (S:Nat->Prop) (w:yh) (a:Act),su ro w->b7 O m S w s.tm a.tmps->aT O m S w s.hp s.ct->s.base<=s.ct->(O.hint h).n<=a.tmps.size->O.w0.heap.size<=lo->lo<=w.heap.size->Marks lo S w a.defers->
  c.wpIn (WF ro) 0 O.P (eC O m S w s ex s' a.tmps.size lo) a w
structure eA (O:bl):Prop where
 hint:∀h,fo O (O.hint h)
 mixed:O.P.follows .mixedOrders=true
 prog:∀n F,O.prog n=some F->∃fn,O.P.funcs[O.af n]? =some fn/\DM O.P (O.hint n) fn=some F/\fn.name≠ "runtime.NumGoroutine"
 aD:∀n sp aq r,O.aD.pure n=some sp->sp aq=some r->ef O n aq r
 Ek:∀n sp hp ct aq v ap aY,O.aD.heap n=some sp->sp hp ct aq=some (v,ap,aY)->Am O n hp ct aq v ap aY
def He {P:y8} {H:Hint} {ops:Array y5}:∀(rs:List a7) (l:List y5) (done:List a7) (ms:List Nat),je P H ops rs l->je P H ops (mA done rs ms) l
 | [],l,done,ms,h=>by
  cases ms<;>simpa only [mA] using h
 | r::rs,[],done,ms,h=>by simp [je] at h
 | r::rs,o::l,done,[],h=>by
  obtain ⟨d,g,op⟩:=r;cases op<;>simpa only [mA] using h
 | r::rs,o::l,done,m::ms,h=>by
  simp only [je] at h;obtain ⟨h1,h2⟩:=h;obtain ⟨d,g,op⟩:=r
  cases op with
  | ir CN f xs=>
   simp only [mA,je];refine ⟨?_,He rs l _ ms h2⟩;rcases h1 with h1 | ⟨_,h1⟩
   ·refine .inl ⟨?_,h1.dst,h1.ok,h1.guard⟩;obtain ⟨c,f',g1,g2,g3,g4⟩:=Qm h1.op;rw [g3,g4];exact .inr (.inl ⟨c,f',_,g1,g2,rfl⟩)
   ·simp [bad] at h1
  | st sz x y=>
   simp only [mA,je];refine ⟨?_,He rs l _ ms h2⟩;rcases h1 with h1 | ⟨_,h1⟩
   ·refine .inl ⟨?_,h1.dst,h1.ok,h1.guard⟩;unfold stOp
    split
    ·exact h1.op
    ·obtain ⟨t,x',y',g1,g2,g3,g4⟩:=ax9 h1.op;exact .inr (.inr (.inl ⟨t,x',y',sz,_,g1,g2,by rw [g3,g4]⟩))
   ·simp [bad] at h1
  | aR sz b x y=>
   simp only [mA,je];refine ⟨?_,He rs l _ ms h2⟩;rcases h1 with h1 | ⟨_,h1⟩
   ·refine .inl ⟨?_,h1.dst,h1.ok,h1.guard⟩;unfold ahW
    split
    ·exact h1.op
    ·obtain ⟨k,hk⟩:=aud h1.op;exact .inr (.inr (.inr ⟨k,_,sz,b,x,y,hk,rfl⟩))
   ·simp [bad] at h1
  | _=>
   simp only [mA,je];exact ⟨h1,He rs l _ ms h2⟩
end
section
variable {O:bl} {self:cy}
def abY {P:y8} {H:Hint} {ops:Array y5}:∀{rs:List a7} {l:List y5},je P H ops rs l->rs.length=l.length/\∀(i:Nat) (r:a7) (o:y5),rs[i]? =some r->l[i]? =some o->Mm P H ops r o\/(r.guard=none/\r.op=bad)
 | [],[],_=>⟨rfl,fun i r o h=>by simp at h⟩
 | [],_::_,h=>by simp [je] at h
 | _::_,[],h=>by simp [je] at h
 | r::rs,o::l,h=>by
  obtain ⟨h1,h2⟩:=abY h.2;refine ⟨by simp [h1],fun i r' o' hr ho=>?_⟩
  cases i with
  | zero=>simp at hr ho;subst hr;subst ho;exact h.1
  | succ i=>exact h2 i r' o' (by simpa using hr) (by simpa using ho)
def an3 {m:Mp} {S:Nat->Prop} {w:yh} {hp:Hp} {ct:Nat} (hh:aT O m S w hp ct):Calm w {w with drawn:=w.drawn+1}:=⟨rfl,rfl,rfl,yo _,fun _ _=>rfl⟩
def auf (hO:eA O) (hC:nc O self) (h:Nat) (id:Nat) (ops:Array y5) (draw:Bool) (k:Nat) {s s':St} (hv:dA O.prog O.aD self (LA O.P (O.hint h) ops draw k).1 s=some s'):An O h (.region id ops draw) s .normal s':=by
 intro ro lo m S w a cD ht hh hb hn bf eL cL;unfold LA at hv;have OC:=aaq (P:=O.P) (H:=O.hint h) (ops:=ops) ops.toList k;generalize hq:BF O.P (O.hint h) ops ops.toList k=q at hv OC;obtain ⟨l,k'⟩:=q;simp only at hv OC;have post:∀{a':Act} {m':Mp} {S':Nat->Prop} {w':yh},aT O m' S' w' s'.hp s'.ct->s.ct<=s'.ct->b7 O m' S' w' s'.tm a'.tmps->b8 m S w s.hp m' S' w' s'.hp s.ct->a'.tmps.size=a.tmps.size->a'.defers=a.defers->s'.base=s.base->eC O m S w s .normal s' a.tmps.size lo .normal a' w':=by
  intro a' m' S' w' h1 h2 h3 h4 h5 h6 h7;exact ⟨rfl,m',S',h3,h1,h7,by omega,h4.qU hb,h5,by rw [h6];exact zQ hh h4 cL⟩
 cases draw with
 | false=>
  simp only [yS] at hv;refine wpIn_region ?_;rw [List.range_eq_range'];have hl:ops.size=ops.toList.length:=by simp
  rw [hl];exact acX hC (hO.hint h) ops.toList l 0 s s' a m S w (fun j=>by simp) OC hv ht hh hn (fun a' m' S' w' h1 h2 h3 h4 h5 h6 h7=>post h1 h2 h3 h4 h5 h6 h7)
 | true=>
  simp only [yB] at hv
  cases oU:(G1 ops.toList 0&&DD [] (mA [] l (lP [] ops.toList)) (lP [] ops.toList)) with
  | false=>
   rw [oU] at hv;simp [dA,bad,a8,ez,aE] at hv
  | true=>
   rw [oU] at hv;simp only [yB] at hv;simp only [ye] at oU;have ah5:=He l ops.toList [] (lP [] ops.toList) OC;generalize mA [] l (lP [] ops.toList)=rs at hv oU ah5;obtain ⟨hlen,aB⟩:=abY ah5;obtain ⟨bX,bL,bG,vF,hR,e1,e2,e3,e4,e5,e6,e7⟩:=acY hv;have hG:qP O (O.hint h) self ops rs bX bL bG vF:=by
    refine ⟨hR,by rw [hlen];simp,fun i r o hr ho=>?_,fun i j x y zx hx hy=>?_,fun i o ho e he hbd=>?_⟩
    ·rcases aB i r o hr (by simpa using ho) with g | ⟨g1,g2⟩
     ·grind
     ·have:=hR.step i r hr
      simp [eK,g1,ow,g2,bad,a8,ez,aE] at this
    ·obtain ⟨mm,g1,g2⟩:=ZP (done:=[]) (i:=i) (j:=j) (a:=x) (b:=y) oU.2 (by simpa using hx) hy (by simpa using zx);refine g2.imp (fun g=>?_) (fun g=>by simpa using g);unfold Ord
     grind
    ·have:=ZK oU.1 (j:=i) (o:=o) (by simpa using ho) e he hbd
     omega
   refine wpIn_region_any hO.mixed ?_;have Io:=an3 hh;have iD:=Ds hh Io (S':=S) (fun _ h=>h) (fun _ h=> .inl h) hh.slt
   have Ox:b8 m S w s.hp m S {w with drawn:=w.drawn+1} s.hp (bG 0):=BA hh Io (fun _ h=>h) (fun _ h=> .inl h);obtain ⟨c,c1,c2,c3,c4⟩:=Ro rs rs.length 0 (by omega);have hg:∀k',k'<=c->hZ (bL 0) (bG 0) (bL (0+k')) (bG (0+k')):=fun k' nF=>
    K2 hR (by rw [e2,e3];exact hh.aW) k' (by omega) (fun j r g1 g2 hr=>Hs hr (c3 j g1 (by omega)))
   have gT:=hg c (yo _);rw [yg] at gT;obtain ⟨S1,g1,g2,g3,g4⟩:=Lk (by rw [e2,e3];exact iD:aT O m S {w with drawn:=w.drawn+1} (bL 0) (bG 0)) gT
   have qO:∀i,(vK ops.size false).getD i false=true->False:=fun i hi=>by
    simp only [wV] at hi
    grind
   refine aue (m0:=m) (S0:=S) (w0:=w) (n0:=a.tmps.size) (d0:=a.defers) hC (hO.hint h) hG hn (fun a' m' S' w' h1 h2 h3 h4 h5 h6=>?_) ops.size _ 0 c m S1 _ a (by simp) ?_ (fun j o _ hj=>(qO j hj).elim) ?_
   ·rw [e5,e6] at h1;rw [e3,e6] at h2;rw [e4] at h3;rw [e2,e3,e5] at h4;exact post h1 h2 h3 h4 h5 h6 e7
   ·unfold left;rw [List.countP_eq_length.2]
    ·simp
    ·intro i hi;simp only [Bool.not_eq_true']
     cases hq:(vK ops.size false).getD i false with
     | false=>rfl
     | true=>exact (qO i hq).elim
   ·refine ⟨uG _,c2,fun i hi=>by omega,c3,c4.imp (fun h=>h) (fun h=>⟨h,fun hd=>qO c hd⟩),fun i r _ _ _ hd=>qO i hd,g1,fun id p hp=> .inl (by rw [e3];exact hh.lt id p hp),fun t=>⟨0,uG _,fun i r _ _=>⟨fun hd=>(qO i hd).elim,fun h=>by omega⟩,?_⟩,?_,gT.oW,rfl,rfl,.inl rfl,fun j hj=>?_⟩
    ·rw [e1];exact lB (fun _ _ h=>h) (fun b hb=>g2 b hb) (fun b hb=>Io.same b (hh.slt b hb)) _ _ (ht t)
    ·rw [e2];have g5:=g4 (bG 0);rw [e2] at g5;exact Ox.trans g5
    ·have:=(hg j hj).lt
     rw [yg] at this;exact this
end
end
section
open Go
section
variable {O:bl} {m:Mp} {S:Nat->Prop} {w:yh} {hp:Hp} {ct:Nat}
def aat (hh:aT O m S w hp ct) {g:Nat} {w':yh} (hw:One w w' g) (hg:¬S g) (ho:¬dR m hp g) (bf:O.w0.heap.size<=g):aT O m S w' hp ct:=by
 have aP:fA S w w':=fun b hb=>hw.other b (fun e=>hg (e▸hb))
 refine ⟨fun id o p h1 h2=>?_,hh.lt,hh.inj,fun b hb=>by rw [hw.size];exact hh.slt b hb,fun id p h=>by rw [hw.size];exact hh.blt id p h,hh.low,fun b hb=>?_,by rw [hw.size];exact hh.fB,hh.aW⟩
 ·exact qd (fun _ _ h=>h) (fun _ h=>h) aP (fun q hq=>hw.other _ (fun e=>ho ⟨id,o,q,h1,hq,e⟩)) (fun _ _ h=>h) (hh.obj id o p h1 h2)
 ·rw [hw.other b (by omega)];exact hh.kP b hb
def aau {P:y8} {b:Nat} {o:Go.Obj} (h:w.heap[b]? =some o) (hc:∀c t f,o≠.cells c t f):(getObj b).run P w= .ok o w:=by
 simp only [getObj,Sem.run,h]
def KR {P:y8} {b:Nat} {o x:Go.Obj} (h:w.heap[b]? =some o) (hc:∀c t f,o≠.cells c t f):(setObj b x).run P w= .ok () {w with heap:=w.heap.setIfInBounds b x}:=by
 simp only [setObj,Sem.run,h]
def GP {P:y8} {b:Nat} {r:uB} (h:w.heap[b]? =some (.loop r)):(Instr.getLoop b).run P w= .ok r w:=by
 simp only [Instr.getLoop,Sem.run_bind,aau (P:=P) h (fun _ _ _=>by simp),Result.andThen_ok,Sem.run_pure]
def Ht (hh:aT O m S w hp ct) {l:Nat} {tm:Env} {ps:List Nat} {cJ body:VC} {st:Nat} {pe:sN} {p:Pl} (hg:aB hp l=some (.lp tm ps cJ body st pe)) (hm:m l=some p):
  ∃(r:uB) (h:Nat),w.heap[p.b]? =some (.loop r)/\¬S p.b/\r.state=Av st/\st<=2/\r.pending=ss pe/\b7 O m S w tm r.tmps/\r.params.toList=ps/\AU O.P (O.hint h) cJ r.assign/\AU O.P (O.hint h) body r.body/\
   (O.hint h).n<=r.tmps.size/\sE (O.hint h).n ps=true:=by
 obtain ⟨q,r,h,g1,g2,g3⟩:=hh.obj l _ p hg hm
 grind
def abc (hh:aT O m S w hp ct) {l:Nat} {tm:Env} {ps:List Nat} {cJ body:VC} {st:Nat} {pe:sN} {p:Pl} (hg:aB hp l=some (.lp tm ps cJ body st pe)) (hm:m l=some p) {r:uB} (hr:w.heap[p.b]? =some (.loop r))
  {st':Nat} {pe':sN} (h2:st'<=2):
  aT O m S {w with heap:=w.heap.setIfInBounds p.b (.loop {r with state:=Av st',pending:=ss pe'})} (bc hp l (.lp tm ps cJ body st' pe')) ct/\
  b8 m S w hp m S {w with heap:=w.heap.setIfInBounds p.b (.loop {r with state:=Av st',pending:=ss pe'})} (bc hp l (.lp tm ps cJ body st' pe')) ct:=by
 obtain ⟨r',h,g1,g2,g3,g4,g5,g6,g7,g8,g9,g10,g11⟩:=Ht hh hg hm;rw [hr] at g1;injection g1 with g1
 injection g1 with g1
 subst g1;have eB:=Dm w p.b (.loop {r with state:=Av st',pending:=ss pe'})
 refine Hc hh hg hm g2 eB ⟨p,{r with state:=Av st',pending:=ss pe'},h,hm,KN hr,g2,rfl,h2,rfl,?_,g7,g8,g9,g10,g11⟩ (fun _ _=>⟨_,KN hr⟩);exact zP (fun _ _ h=>h) (fun _ h=>h) (fun b hb=>eB.other b (fun e=>g2 (e▸hb))) g6
def abd {n:Nat}:∀{ps:List Nat} {vs:List AV} {us:List yf} {tm cg:Env} {tmps:Array yf},qG tm ps vs=some cg->az O.af m S w vs us->b7 O m S w tm tmps->n<=tmps.size->sE n ps=true->
  ps.length=us.length/\b7 O m S w cg ((ps.zip us).foldl (fun t (x:Nat×yf)=>t.setIfInBounds x.1 x.2) tmps)/\((ps.zip us).foldl (fun t (x:Nat×yf)=>t.setIfInBounds x.1 x.2) tmps).size=tmps.size
 | [],[],us,tm,cg,tmps,h,hr,ht,hn,ha=>by
  simp only [qG,yd] at h;simp only [az] at hr
  simp_all
 | [],_::_,us,tm,cg,tmps,h,hr,ht,hn,ha=>by simp [qG] at h
 | _::_,[],us,tm,cg,tmps,h,hr,ht,hn,ha=>by simp [qG] at h
 | p::ps,v::vs,us,tm,cg,tmps,h,hr,ht,hn,ha=>by
  simp only [qG] at h;obtain ⟨u,t,rfl,h1,h2⟩:=hr;simp only [sE,ye] at ha;have hp:=sf.1 ha.1;have ht1:b7 O m S w ((p,v)::tm) (tmps.setIfInBounds p u):=Qp (a:=⟨tmps,[]⟩) (d:=some p) ht (fun i hi=>by injection hi with hi;show i<tmps.size;omega) h1
  obtain ⟨g1,g2,g3⟩:=abd (n:=n) h h2 ht1 (by simpa using hn) ha.2
  simp_all
def apT (ps:Array Tmp) (args:Array yf) (tmps:Array yf):(ps.zip args).foldl (fun tmps (x:Tmp×yf)=>tmps.setIfInBounds x.1 x.2) tmps=(ps.toList.zip args.toList).foldl (fun t (x:Nat×yf)=>t.setIfInBounds x.1 x.2) tmps:=by
 rw [<-Array.foldl_toList,Array.toList_zip]
def ame {P:y8} {b:Nat} {r:uB} (h:w.heap[b]? =some (.loop r)) (jump:Option wL):
  (Instr.endRound b jump).run P w= .ok (.bool jump.isNone) {w with heap:=w.heap.setIfInBounds b (.loop {r with state:=if jump.isNone then .ready else .done,pending:=jump})}:=by
 simp only [Instr.endRound,Sem.run_bind,GP h,Result.andThen_ok,KR (P:=P) h (fun _ _ _=>by simp),Sem.run_pure]
def al2 {P:y8} {b:Nat} {r:uB} (h:w.heap[b]? =some (.loop r)) (hs:r.state= .ready):
  (Instr.beginRound b).run P w= .ok () {w with heap:=w.heap.setIfInBounds b (.loop {r with state:= .busy})}:=by
 simp only [Instr.beginRound,Sem.run_bind,GP h,Result.andThen_ok,KR (P:=P) h (fun _ _ _=>by simp),hs,Sem.run_pure]
def apU {self:cy} (hS:∀v s ex s',self v s=some (ex,s')->∀c h l k,(comp O.P (O.hint h) c l k).1=v->An O h c s ex s') {l:Nat} {xs:List AV} {v:AV} {ap:Hp} {aY:Nat}
  (hv:mZ self hp ct l xs=some (v,ap,aY)):afW O hp ct l xs v ap aY:=by
 intro m S w args p hh hm gh;unfold mZ at hv
 split at hv
 case h_2=>cases hv
 rename_i tm ps cJ body pe hg;obtain ⟨r,h,g1,g2,g3,g4,g5,g6,g7,⟨ca,ka,g8⟩,⟨cb,kb,g9⟩,g10,g11⟩:=Ht hh hg hm
 cases hb:qG tm ps xs with
 | none=>simp [hb] at hv
 | some cg=>
  simp only [hb] at hv;obtain ⟨b1,b2,b3⟩:=abd hb gh g6 g10 g11;rw [<-g7] at b1 b2 b3;have eh:args.size=r.params.size:=by
   grind
  let tmps:Array yf:=(r.params.zip args).foldl (fun tmps (x:Tmp×yf)=>tmps.setIfInBounds x.1 x.2) r.tmps
  have ah6:tmps=(r.params.toList.zip args.toList).foldl (fun t (x:Nat×yf)=>t.setIfInBounds x.1 x.2) r.tmps:=apT _ _ _;refine ⟨r.fn,tmps,r.assign,r.body,?_,?_⟩
  ·simp only [Instr.yield,Sem.run_bind,GP g1,Result.andThen_ok,eh,ne_eq,ybU,xd,Sem.run_pure];rfl
  refine roundIn_of_wpIn (F:=Fence.wide) trivial ?_
  cases h1:self cJ ⟨cg,hp,ct,ct⟩ with
  | none=>simp [h1] at hv
  | some q=>
   obtain ⟨ex1,s1⟩:=q
   cases ex1 with
   | ret=>simp [h1] at hv
   | exit id=>simp [h1] at hv
   | normal=>
    simp only [h1] at hv;have dW:=hS _ _ _ _ h1 r.assign h ca ka g8;have cD:∀w',b8 m S w hp m S w' hp ct->su (some p.b) w':=fun w' hf=>K4 hf (fun l hl=>⟨r,by injection hl with hl;subst hl;exact g1⟩)
    refine wpIn_mono (dW (some p.b) w.heap.size m S w ⟨tmps,[]⟩ (cD w b8.refl) (by rw [ah6];exact b2) hh (yo _) (by show _<=tmps.size;rw [ah6,b3];exact g10) hh.fB (yo _) ⟨[],rfl,by simp,by simp⟩) ?_
    rintro e a1 w1 ⟨rfl,m1,S1,k1,k2,k3,k4,k5,k6,k7⟩;simp only [pR,Exit.then];have A5:m1 l=some p:=k5.old l p (hh.lt l p hm) hm
    split at hv
    case h_2=>cases hv
    rename_i jk CI AS B8 zj gT;obtain ⟨r1,iD,f1,f2,f3,f4,f5,f6,f7,f8,f9,f10,f11⟩:=Ht k2 gT A5;have Yl:=al2 (P:=O.P) f1 f3;obtain ⟨q1,q2⟩:=abc k2 gT A5 f1 (st':=1) (pe':=zj) (by omega)
    have cV:({r1 with state:=Av 1,pending:=ss zj}:uB)={r1 with state:= .busy}:=by rw [<-f5];rfl
    rw [cV] at q1 q2;refine ⟨_,Yl,?_⟩
    cases h2:self body ⟨s1.tm,bc s1.hp l (.lp jk CI AS B8 1 zj),s1.ct,s1.ct⟩ with
    | none=>simp [h2] at hv
    | some q=>
     obtain ⟨ex,s2⟩:=q;simp only [h2] at hv;have rI:=hS _ _ _ _ h2 r.body h cb kb g9
     have azI:su (some p.b) {w1 with heap:=w1.heap.setIfInBounds p.b (.loop {r1 with state:= .busy})}:=fun l hl=>by
      grind
     have Ym:b7 O m1 S1 {w1 with heap:=w1.heap.setIfInBounds p.b (.loop {r1 with state:= .busy})} s1.tm a1.tmps:=
      zP (fun _ _ h=>h) (fun _ h=>h) (fun b hb=>q2.still b hb) k1
     have azJ:(O.hint h).n<=a1.tmps.size:=by
      grind
     refine wpIn_mono (rI (some p.b) w.heap.size m1 S1 _ a1 azI Ym q1 (yo _) azJ hh.fB (xf k5.size q2.size) (zQ k2 q2 k7)) ?_;rintro e a2 w2 ⟨rfl,m2,S2,j1,j2,j3,j4,j5,j6,j7⟩;have hm2:m2 l=some p:=j5.old l p (k2.lt l p A5) A5
     split at hv
     case h_2=>cases hv
     rename_i ru JF JG Ik pe2 Fu;obtain ⟨r2,JS,d1,d2,d3,d4,d5,d6,d7,d8,d9,d10,d11⟩:=Ht j2 Fu hm2;have azK:b8 m S w hp m2 S2 w2 s2.hp ct:=(k5.trans (q2.qU k4)).trans (j5.qU k4);have ah7:ct<=s2.ct:=xf k4 j4;have fin:∀(jump:Option wL) (st':Nat) (pe':sN),ss pe'=jump->Av st'=(if jump.isNone then .ready else .done)->st'<=2->
       ∃v' w',(Instr.endRound p.b jump).run O.P w2= .ok v' w'/\r5 O m S w hp ct (.bool jump.isNone) (bc s2.hp l (.lp ru JF JG Ik st' pe')) s2.ct (.returned v') w':=by
      intro jump st' pe' e1 e2 e3;obtain ⟨z1,z2⟩:=abc j2 Fu hm2 d1 (st':=st') (pe':=pe') e3;rw [e1,e2] at z1 z2;exact ⟨_,_,ame d1 jump,_,m2,S2,rfl,z1,ah7,by simp [ah],azK.trans (z2.qU ah7)⟩
     cases ex with
     | normal=>
      simp only [yd,yj] at hv;obtain ⟨rfl,rfl,rfl⟩:=hv;simp only [pR,roundPost];exact fin none 0 .none rfl rfl (by omega)
     | ret=>
      simp only [Re,yd,yj] at hv;obtain ⟨rfl,rfl,rfl⟩:=hv;simp only [pR,roundPost];exact fin (some .ret) 2 .ret rfl rfl (by omega)
     | exit id=>
      simp only [Re,yd,yj] at hv;obtain ⟨rfl,rfl,rfl⟩:=hv;simp only [pR,roundPost];exact fin (some (.exit id)) 2 (.exit id) rfl rfl (by omega)
end
end
section
open Go
section
variable {O:bl} {self:cy}
def Ln {P:y8} {f:tI} {fn:tD} {args:Array yf} {w:yh} (hf:P.funcs[f]? =some fn) (hb:fn.body.isSome=true) (hn:fn.name≠ "runtime.NumGoroutine"):(callFunc f args).run P w= .ok (.enter f args) w:=by
 have h1:fn.body≠none:=fun e=>by rw [e] at hb;cases hb
 simp [callFunc,program,Sem.run,hf,h1,hn]
def PD {P:y8} {H:Hint} {fn:tD} {F:aX} (h:DM P H fn=some F):∃c,fn.body=some c/\F.body=(comp P H c 0 0).1/\n5 P fn.results.toList=some F.fT/\H.n<=fn.ntmps:=by
 unfold DM at h
 split at h
 ·rename_i c rs h1 h2
  cases hb:yF H.n fn.ntmps with
  | false=>rw [hb] at h;cases h
  | true=>
   rw [hb] at h;simp only [yB,yd] at h;subst h
   simp_all
 ·cases h
def apV {m:Mp} {S:Nat->Prop} {w:yh} {hp:Hp} {ct:Nat} {tm:Env} {a:Act} {ro:Option Nat} (fn:tI) (ps:Array Tmp) (assign body:wL) {cJ b':VC} {h:Nat} (hh:aT O m S w hp ct) (ht:b7 O m S w tm a.tmps) (cD:su ro w)
  (Yn:AU O.P (O.hint h) cJ assign) (Yo:AU O.P (O.hint h) b' body) (hn:(O.hint h).n<=a.tmps.size) (gQ:sE (O.hint h).n ps.toList=true) {lo:Nat} (eL:lo<=w.heap.size) (cL:Marks lo S w a.defers):
  ∃l mark w1,(Instr.enterLoop fn a.tmps ps assign body ro).run O.P w= .ok (l,mark) w1/\aT O (fj m ct ⟨l,0,0,0⟩) S w1 ((ct,.lp tm ps.toList cJ b' 0 .none)::hp) (ct+1)/\
   b8 m S w hp (fj m ct ⟨l,0,0,0⟩) S w1 ((ct,.lp tm ps.toList cJ b' 0 .none)::hp) ct/\m ct=none/\Marks lo S w1 (mark++a.defers)/\w.heap.size<=l:=by
 have bJ:m ct=none:=by
  cases hq:m ct with
  | none=>rfl
  | some p=>have:=hh.lt ct p hq;omega
 have lay:∀(w':yh) (d:Nat),Calm w w'->Marks lo S w' a.defers->
   aT O (fj m ct ⟨w'.heap.size,0,0,0⟩) S (w'.alloc (.loop {state:= .ready,pending:=none,fn:=fn,tmps:=a.tmps,params:=ps,assign:=assign,body:=body,defers:=d})) ((ct,.lp tm ps.toList cJ b' 0 .none)::hp) (ct+1)/\
   b8 m S w hp (fj m ct ⟨w'.heap.size,0,0,0⟩) S (w'.alloc (.loop {state:= .ready,pending:=none,fn:=fn,tmps:=a.tmps,params:=ps,assign:=assign,body:=body,defers:=d})) ((ct,.lp tm ps.toList cJ b' 0 .none)::hp) ct:=by
  intro w' d hw ah8;have iD:aT O m S w' hp ct:=Ds hh hw (fun _ h=>h) (fun _ h=> .inl h) (fun b hb=>yV (hh.slt b hb) hw.size);have Ox:b8 m S w hp m S w' hp ct:=BA hh hw (fun _ h=>h) (fun _ h=> .inl h);have hg:hZ hp ct ((ct,.lp tm ps.toList cJ b' 0 .none)::hp) (ct+1):=by
   refine ⟨fun id o ho=>⟨o,?_,iZ.refl o⟩,by omega,fun id o ho=>?_,fun id o ho hi=>?_⟩
   ·rw [gL,yr (by have:=hh.aW id o ho;omega)];exact ho
   ·rw [gL] at ho;by_cases hc:ct=id
    ·omega
    ·simp only [hc,xd] at ho;have:=hh.aW id o ho;omega
   ·rw [gL,yr (by omega)] at ho;exact ⟨o,ho⟩
  have ej:∀i q,aB ((ct,Obj.lp tm ps.toList cJ b' 0 .none)::hp) i=some q->i≠ct->aB hp i=some q:=fun i q h hi=>by
   rw [gL,yr (fun e=>hi e.symm)] at h;exact h
  have JS:aT O m S w' ((ct,.lp tm ps.toList cJ b' 0 .none)::hp) (ct+1):=by
   have bN:∀id p,m id=some p->id≠ct:=fun id p hm e=>by have:=hh.lt id p hm;omega
   exact ⟨fun id o p ho hm=>iD.obj id o p (ej id o ho (bN id p hm)) hm,fun id p hm=>by have:=hh.lt id p hm;omega,
    fun i j oi oj pi pj hi hj bJ fK e=>iD.inj i j oi oj pi pj (ej i oi hi (bN i pi bJ)) (ej j oj hj (bN j pj fK)) bJ fK e,iD.slt,iD.blt,iD.low,iD.kP,iD.fB,hg.lt⟩
  have nG:fh O (fj m ct ⟨w'.heap.size,0,0,0⟩) S (w'.alloc (.loop {state:= .ready,pending:=none,fn:=fn,tmps:=a.tmps,params:=ps,assign:=assign,body:=body,defers:=d})) ct (.lp tm ps.toList cJ b' 0 .none):=by
   refine ⟨⟨w'.heap.size,0,0,0⟩,_,h,dZ,heap_alloc_new w' _,?_,rfl,by omega,rfl,?_,rfl,Yn,Yo,hn,gQ⟩
   ·intro hS
    have:=iD.slt _ hS
    simp at this
   ·exact zP (jM bJ) (fun _ h=>h) (fun b hb=>(GV iD _ b hb).trans (hw.same b (hh.slt b hb))) ht
  obtain ⟨S',k1,k2,k3⟩:=abL (i:=ct) (p:=⟨w'.heap.size,0,0,0⟩) JS bJ (by omega) rfl (fun o ho=>by
   rw [gL] at ho;simp only [xA,yd] at ho;subst ho
   exact .inl ⟨nG,by simp [iN]⟩)
  have k1':aT O (fj m ct ⟨w'.heap.size,0,0,0⟩) S (w'.alloc (.loop {state:= .ready,pending:=none,fn:=fn,tmps:=a.tmps,params:=ps,assign:=assign,body:=body,defers:=d})) ((ct,.lp tm ps.toList cJ b' 0 .none)::hp) (ct+1):=by
   have JL:∀id q,m id=some q->q.b≠w'.heap.size:=fun id q hq=>by have:=iD.blt id q hq;omega
   refine ⟨?_,k1.lt,k1.inj,fun b hb=>k1.slt b (k2 b hb),k1.blt,k1.low,k1.kP,k1.fB,k1.aW⟩;intro id o q ho hm;by_cases hc:id=ct
   ·subst hc;rw [gL] at ho
    grind
   ·rw [dY hc] at hm;exact qd (jM bJ) (fun _ h=>h) (GV iD _) (fun q' bK=>alloc_old (iD.blt id q' bK)) (fun _ _ h=>h) (iD.obj id o q (ej id o ho hc) hm)
  refine ⟨k1',Ox.trans ⟨rfl,rfl,rfl,by simp,fun b hb _=>alloc_old hb,fun _ h=>h,fun b hb=>GV iD _ b hb,fun b hb=> .inl hb,?_,fun i q _ hq=>jM bJ i q hq,fun b r hb=>⟨r,(alloc_old (xm.1 hb).1).trans hb⟩⟩⟩;rintro b ⟨i,o,q,g1,g2,g3⟩;by_cases hc:i=ct
  ·subst hc;rw [dZ] at g2
   grind
  ·rw [dY hc] at g2;exact .inl ⟨i,o,q,ej i o g1 hc,g2,g3⟩
 cases ro with
 | none=>
  have Io:Calm w (w.alloc (.deferred (some []))):=⟨rfl,rfl,rfl,by simp,fun b hb=>alloc_old hb⟩;obtain ⟨rs,r1,r2,r3⟩:=cL;have azL:Marks lo S (w.alloc (.deferred (some []))) a.defers:=⟨rs,r1,r2,fun r hr=>⟨(alloc_old (xm.1 (r3 r hr).1).1).trans (r3 r hr).1,(r3 r hr).2⟩⟩;obtain ⟨k1,k2⟩:=lay (w.alloc (.deferred (some []))) w.heap.size Io azL
  refine ⟨(w.alloc (.deferred (some []))).heap.size,[{target:= .collected w.heap.size,args:=#[]}],_,?_,k1,k2,bJ,?_,by simp⟩
  ·simp [Instr.enterLoop,newObj,Sem.run]
  ·have hold:∀(b:Nat) (x:Go.Obj),(w.alloc (.deferred (some []))).heap[b]? =some x->((w.alloc (.deferred (some []))).alloc (.loop {state:= .ready,pending:=none,fn:=fn,tmps:=a.tmps,params:=ps,assign:=assign,body:=body,defers:=w.heap.size})).heap[b]? =some x:=fun b x hb=>
    (alloc_old (xm.1 hb).1).trans hb
   refine ⟨w.heap.size::rs,by rw [r1];rfl,?_,?_⟩
   ·grind
   ·intro r hr;rcases List.mem_cons.1 hr with rfl | hr
    ·exact ⟨hold _ _ (heap_alloc_new w _),fun hs=>by have:=hh.slt _ hs;omega,eL⟩
    ·exact ⟨hold _ _ ((alloc_old (xm.1 (r3 r hr).1).1).trans (r3 r hr).1),(r3 r hr).2⟩
 | some l0=>
  obtain ⟨r0,eN⟩:=cD l0 rfl;obtain ⟨k1,k2⟩:=lay w r0.defers Calm.refl cL;refine ⟨w.heap.size,[],_,?_,k1,k2,bJ,?_,yo _⟩
  ·simp [Instr.enterLoop,GP eN,newObj,Sem.run]
  ·exact zQ hh k2 cL
def aya (hO:eA O) (hC:nc O self) {h:Nat} {f:Operand} {ps:Array Tmp} {assign body:wL} {cJ b':VC} (Yn:AU O.P (O.hint h) cJ assign) (Yo:AU O.P (O.hint h) b' body) (gQ:sE (O.hint h).n ps.toList=true)
  {s:St} {ex:Ex} {s':St} (hv:bF O.prog O.aD self (.rf (aK (O.hint h) f) ps.toList cJ b') s=some (ex,s')):An O h (.rangeFunc f ps assign body) s ex s':=by
 intro ro lo m S w a cD ht hh hb hn bf eL cL;simp only [bF] at hv
 split at hv
 case h_2=>cases hv
 rename_i n first cap hx
 split at hv
 case h_1=>cases hv
 rename_i hL
 cases he:gZ O.prog O.aD self ((s.ct,.lp s.tm ps.toList cJ b' 0 .none)::s.hp) (s.ct+1) n (first++(.fn (.y s.ct) [] []::cap)) with
 | none=>simp [he] at hv
 | some q=>
  obtain ⟨v,bi,nJ⟩:=q;simp only [he] at hv
  split at hv
  case h_2=>cases hv
  rename_i ru JF JG Ik st pe Fu
  cases aP:yx st 1 with
  | true=>rw [aP] at hv;cases hv
  | false=>
   rw [aP] at hv;simp only [yS] at hv;refine wpIn_rangeFunc (fun fn _=>?_);obtain ⟨l,mark,w1,e1,e2,e3,e4,e5,e6⟩:=apV (ro:=ro) fn ps assign body hh ht cD Yn Yo hn gQ eL cL;have rf:=cw (hO.hint h) ht f;rw [hx] at rf;simp only [ah] at rf;obtain ⟨fi,ca,hf,r2,r3⟩:=rf;have hle:=jM e4 (p:=⟨l,0,0,0⟩);have qV:fA S w w1:=fun b hb=>e3.still b hb
   have gh:az O.af (fj m s.ct ⟨l,0,0,0⟩) S w1 (first++(.fn (.y s.ct) [] []::cap)) (fi++#[Value.func (.yield l) #[] #[]]++ca).toList:=by
    have:=lA (gK hle (fun _ h=>h) qV _ _ r2) (lA (a:=[.fn (.y s.ct) [] []]) (x:=[Value.func (.yield l) #[] #[]]) (by
     simp only [az]
     exact ⟨_,[],rfl,by simp only [ah];exact ⟨_,dZ,rfl⟩,rfl⟩) (gK hle (fun _ h=>h) qV _ _ r3))
    grind
   have RW:=hC.heap _ _ _ _ _ _ _ he _ S w1 _ e2 gh;have hP:∃F,O.prog n=some F:=by
    unfold gZ at he;rw [hL] at he
    cases hq:O.prog n with
    | none=>simp [hq] at he
    | some F=>exact ⟨F,rfl⟩
   obtain ⟨F,hF⟩:=hP;obtain ⟨fn',q1,q2,q3⟩:=hO.prog n F hF;obtain ⟨cb,q4,_⟩:=PD q2;have fu:(callFunc (O.af n) (fi++#[Value.func (.yield l) #[] #[]]++ca)).run O.P w1= .ok (.enter (O.af n) (fi++#[Value.func (.yield l) #[] #[]]++ca)) w1:=Ln q1 (by rw [q4];rfl) q3
   refine ⟨l,mark,w1,{target:= .fn (.func (O.af n)) ca,args:=fi++#[Value.func (.yield l) #[] #[]]},w1,O.af n,fi++#[Value.func (.yield l) #[] #[]]++ca,w1,e1,?_,fun _ _=>trivial,?_,fun hd=>by simp [WF,Fence.wide] at hd,?_⟩
   ·show Sem.run O.P (Deferred.ofValue (a.eval f) _) w1=_
    rw [hf];simp [Deferred.ofValue,Act.eval]
   ·simp only [invoke];exact fu
   ·rcases RW with ⟨_,RW⟩ | ⟨u,w',h1,_⟩
    case inr=>rw [fu] at h1;cases h1
    have aug:CallsIn (WF ro) 0 O.P (O.af n) (fi++#[Value.func (.yield l) #[] #[]]++ca) w1 (r5 O (fj m s.ct ⟨l,0,0,0⟩) S w1 ((s.ct,.lp s.tm ps.toList cJ b' 0 .none)::s.hp) (s.ct+1) v bi nJ):=RW;refine CallsIn.mono aug ?_;rintro e w3 ⟨u,m',S',rfl,k1,k2,k3,k4⟩;have gE:m' s.ct=some ⟨l,0,0,0⟩:=k4.old s.ct _ (Nat.lt_succ_self _) dZ;obtain ⟨r,JS,d1,d2,d3,d4,d5,d6,_⟩:=Ht k1 Fu gE;have oY:(r.state==LoopState.busy)=false:=by
     rw [d3];rcases st with _ | _ | st
     ·rfl
     ·simp_all
     ·have:st=0:=by omega
      subst this;rfl
    have eB:=Dm w3 l (.loop {r with state:= .exhausted});have hdl:=abT k1 s.ct;have nI:¬dR m' (dU bi s.ct) l:=ZY k1 Fu gE
    have z1:aT O m' S' {w3 with heap:=w3.heap.setIfInBounds l (.loop {r with state:= .exhausted})} (VE.dU bi s.ct) nJ:=aat hdl eB d2 nI (by have:=hh.fB;omega)
    have z2:b8 m' S' w3 bi m' S' {w3 with heap:=w3.heap.setIfInBounds l (.loop {r with state:= .exhausted})} (VE.dU bi s.ct) s.base:=by
     refine ⟨rfl,rfl,rfl,by rw [eB.size];exact yo _,fun b _ hb=>eB.other b (fun e=>hb (e▸HF Fu gE)),fun _ h=>h,fun b hb=>eB.other b (fun e=>d2 (e▸hb)),fun b hb=> .inl hb,fun b hb=> .inl (acV hb),fun _ _ _ h=>h,fun b x hb=>?_⟩
     grind
    have Sn:b8 m S w s.hp m' S' {w3 with heap:=w3.heap.setIfInBounds l (.loop {r with state:= .exhausted})} (VE.dU bi s.ct) s.base:=
     ((e3.qU hb).trans (k4.qU (by omega))).trans z2
    have ML:(Instr.endLoop l).run O.P w3= .ok (ss pe) {w3 with heap:=w3.heap.setIfInBounds l (.loop {r with state:= .exhausted})}:=by
     simp only [Instr.endLoop,Sem.run_bind,GP d1,Result.andThen_ok,oY,yJ,xd,Sem.run_pure,KR (P:=O.P) d1 (fun _ _ _=>by simp),d5]
    have ah8:Marks lo S' {w3 with heap:=w3.heap.setIfInBounds l (.loop {r with state:= .exhausted})} (mark++a.defers):=zQ k1 z2 (zQ e2 k4 e5)
    have jE:b7 O m' S' {w3 with heap:=w3.heap.setIfInBounds l (.loop {r with state:= .exhausted})} s.tm a.tmps:=by
     refine zP (fun id p hp=>?_) Sn.sub (fun b hb=>Sn.still b hb) ht;have h1:=hh.lt id p hp;exact k4.old id p (by omega) (hle id p hp)
    have post:∀Yp,s'={s with hp:=VE.dU bi s.ct,ct:=nJ}->ex=Yp->eC O m S w s ex s' a.tmps.size lo (pR Yp) {a with defers:=mark++a.defers} {w3 with heap:=w3.heap.setIfInBounds l (.loop {r with state:= .exhausted})}:=by
     rintro Yp rfl rfl;exact ⟨rfl,m',S',jE,z1,rfl,by show s.base<=nJ;omega,Sn,rfl,ah8⟩
    refine ⟨_,_,ML,?_⟩
    cases pe with
    | none=>
     simp only [yd,yj] at hv;exact post .normal hv.2.symm hv.1.symm
    | ret=>
     simp only [yd,yj] at hv;exact wpIn_ret (post .ret hv.2.symm hv.1.symm)
    | exit id=>
     simp only [yd,yj] at hv;exact wpIn_exit (post (.exit id) hv.2.symm hv.1.symm)
end
end
section
def Le (f g:cy):Prop:=∀c s r,f c s=some r->g c s=some r
section
variable {P:aH} {L:Lib} {f g:cy}
def Pt (h:Le f g) (n:Nat) (aq:List AV) (r:AV) (hr:bH P L f n aq=some r):bH P L g n aq=some r:=by
 unfold bH at hr ⊢
 cases hL:L.pure n with
 | some sp=>simpa only [hL] using hr
 | none=>
  simp only [hL] at hr ⊢
  cases hP:P n with
  | none=>simp [hP] at hr
  | some F=>
   simp only [hP] at hr ⊢
   cases hf:f F.body ⟨eO 0 aq,[],0,0⟩ with
   | none=>simp [hf] at hr
   | some q=>rw [h _ _ _ hf];simpa only [hf] using hr
def PE (h:Le f g) (hp:Hp) (ct:Nat) (n:Nat) (aq:List AV) (r:AV×Hp×Nat) (hr:gZ P L f hp ct n aq=some r):gZ P L g hp ct n aq=some r:=by
 unfold gZ at hr ⊢
 cases hL:L.heap n with
 | some sp=>simpa only [hL] using hr
 | none=>
  simp only [hL] at hr ⊢
  cases hP:P n with
  | none=>simp [hP] at hr
  | some F=>
   simp only [hP] at hr ⊢
   cases hf:f F.body ⟨eO 0 aq,hp,ct,ct⟩ with
   | none=>simp [hf] at hr
   | some q=>rw [h _ _ _ hf];simpa only [hf] using hr
def ZR (h:Le f g) (hp:Hp) (ct:Nat) (l:Nat) (xs:List AV) (r:AV×Hp×Nat) (hr:mZ f hp ct l xs=some r):mZ g hp ct l xs=some r:=by
 unfold mZ at hr ⊢
 cases hl:aB hp l with
 | none=>simp [hl] at hr
 | some o=>
  simp only [hl] at hr ⊢
  split at hr
  ·rename_i tm ps cJ body pe nK;simp only [yd] at nK;subst nK
   (try simp only at hr ⊢)
   cases hb:qG tm ps xs with
   | none=>simp [hb] at hr
   | some cg=>
    simp only [hb] at hr ⊢
    cases h1:f cJ ⟨cg,hp,ct,ct⟩ with
    | none=>simp [h1] at hr
    | some q=>
     rw [h _ _ _ h1];simp only [h1] at hr ⊢
     split at hr
     ·rename_i s1 So;simp only [yd] at So;subst So
      (try simp only at hr ⊢)
      split at hr
      ·rename_i jk CI AS B8 zj ah9
       (try simp only [ah9])
       cases h2:f body ⟨s1.tm,bc s1.hp l (.lp jk CI AS B8 1 zj),s1.ct,s1.ct⟩ with
       | none=>simp [h2] at hr
       | some q2=>rw [h _ _ _ h2];simpa only [h2] using hr
      ·simp at hr
     ·simp at hr
  ·simp at hr
def Z3 (h:Le f g) (hp:Hp) (ct:Nat) (m:Md) (fv:AV) (xs:List AV) (r:AV×Hp×Nat) (hr:ez P L f hp ct m fv xs=some r):ez P L g hp ct m fv xs=some r:=by
 unfold ez at hr ⊢
 split at hr
 ·rename_i n first cap
  cases m with
  | pure=>
   simp only at hr ⊢
   cases hz:cM deep hp (first++(xs++cap)) with
   | none=>simp [hz] at hr
   | some q=>
    simp only [hz] at hr ⊢
    cases hc:bH P L f n q.1 with
    | none=>simp [hc] at hr
    | some u=>rw [Pt h n q.1 u hc];simpa only [hc] using hr
  | own=>
   simp only at hr ⊢
   cases hz:cM deep hp (first++(xs++cap)) with
   | none=>simp [hz] at hr
   | some q=>
    simp only [hz] at hr ⊢
    cases hc:bH P L f n q.1 with
    | none=>simp [hc] at hr
    | some u=>rw [Pt h n q.1 u hc];simpa only [hc] using hr
  | heap=>exact PE h _ _ _ _ _ hr
  | dyn=>
   simp only at hr ⊢
   cases hz:aG (first++(xs++cap)) with
   | true=>
    simp only [hz,yB] at hr ⊢
    cases hc:bH P L f n (first++(xs++cap)) with
    | none=>simp [hc] at hr
    | some u=>rw [Pt h n _ u hc];simpa only [hc] using hr
   | false=>
    simp only [hz,yS] at hr ⊢;exact PE h _ _ _ _ _ hr
 ·split at hr
  ·exact ZR h _ _ _ _ _ hr
  ·exact ZR h _ _ _ _ _ hr
  ·simp at hr
 ·simp at hr
def abe (h:Le f g) (tm:Env) (hp:Hp) (ct:Nat) (o:Op) (r:AV×Hp×Nat) (hr:a8 P L f tm hp ct o=some r):a8 P L g tm hp ct o=some r:=by
 unfold a8 at hr ⊢
 split at hr
 ·exact Z3 h _ _ _ _ _ _ hr
 ·rename_i rs fv xs
  (try simp only at hr ⊢)
  cases hc:ez P L f hp ct .dyn (aE tm fv) (dj tm xs) with
  | none=>simp [hc] at hr
  | some q=>rw [Z3 h _ _ _ _ _ _ hc];simpa only [hc] using hr
 all_goals simpa only using hr
def KS (h:Le f g):∀(ops:List a7) (s s':St),dA P L f ops s=some s'->dA P L g ops s=some s'
 | [],s,s',hr=>by simpa only [dA] using hr
 | ⟨d,gd,o⟩::r,s,s',hr=>by
  simp only [dA] at hr ⊢
  split at hr
  ·rename_i hw
   try simp only [hw]
   cases ho:a8 P L f s.tm s.hp s.ct o with
   | none=>simp [ho] at hr
   | some q=>rw [abe h _ _ _ _ _ ho];simp only [ho] at hr ⊢;exact KS h r _ _ hr
  ·rename_i hw
   (try simp only [hw]);exact KS h r _ _ hr
  ·simp at hr
def pz (h:Le f g):∀(c:VC) (s:St) (r:Ex×St),bF P L f c s=some r->bF P L g c s=some r
 | .skip,s,r,hr=>by simpa only [bF] using hr
 | .aJ ops,s,r,hr=>by
  simp only [bF] at hr ⊢
  cases ho:dA P L f ops s with
  | none=>simp [ho] at hr
  | some s'=>rw [KS h _ _ _ ho];simpa only [ho] using hr
 | .seq a b,s,r,hr=>by
  simp only [bF] at hr ⊢
  cases ha:bF P L f a s with
  | none=>simp [ha] at hr
  | some q=>
   rw [pz h a s q ha];obtain ⟨ex,s1⟩:=q
   cases ex with
   | normal=>simp only [ha] at hr ⊢;exact pz h b s1 r hr
   | ret=>simpa only [ha] using hr
   | exit id=>simpa only [ha] using hr
 | .cond x a b,s,r,hr=>by
  simp only [bF] at hr ⊢
  split at hr
  ·rename_i t ht
   try simp only [ht]
   cases t with
   | true=>simp only [yB] at hr ⊢;exact pz h a s r hr
   | false=>simp only [yS] at hr ⊢;exact pz h b s r hr
  ·simp at hr
 | .aF id a,s,r,hr=>by
  simp only [bF] at hr ⊢
  cases ha:bF P L f a s with
  | none=>simp [ha] at hr
  | some q=>rw [pz h a s q ha];simpa only [ha] using hr
 | .kp live,s,r,hr=>by simpa only [bF] using hr
 | .fz ts,s,r,hr=>by simpa only [bF] using hr
 | .loop live a,s,r,hr=>by
  simp only [bF] at hr ⊢
  cases ha:bF P L f a (aQ live s) with
  | none=>simp [ha] at hr
  | some q=>
   rw [pz h a _ q ha];obtain ⟨ex,s1⟩:=q
   cases ex with
   | normal=>simp only [ha] at hr ⊢;exact h _ _ _ hr
   | ret=>simpa only [ha] using hr
   | exit id=>simpa only [ha] using hr
 | .rf fv ps cJ body,s,r,hr=>by
  simp only [bF] at hr ⊢
  split at hr
  ·rename_i n first cap hx
   try simp only [hx]
   split at hr
   ·simp at hr
   ·rename_i hL
    try simp only [hL]
    cases hc:gZ P L f ((s.ct,.lp s.tm ps cJ body 0 .none)::s.hp) (s.ct+1) n (first++(.fn (.y s.ct) [] []::cap)) with
    | none=>simp [hc] at hr
    | some q=>rw [PE h _ _ _ _ _ hc];simpa only [hc] using hr
  ·simp at hr
 | .exit id,s,r,hr=>by simpa only [bF] using hr
 | .ret,s,r,hr=>by simpa only [bF] using hr
end
def Hu (P:aH) (L:Lib) (c:VC) (s:St):ev P L 0 c s=none:=rfl
def Hv (P:aH) (L:Lib) (n:Nat):ev P L (n+1)=bF P L (ev P L n):=rfl
def ahc (P:aH) (L:Lib):∀n,Le (ev P L n) (ev P L (n+1))
 | 0=>fun c s r h=>by rw [Hu] at h;cases h
 | n+1=>fun c s r h=>by
  rw [Hv] at h ⊢;exact pz (ahc P L n) c s r h
def QR (P:aH) (L:Lib) {n m:Nat} (h:n<=m):Le (ev P L n) (ev P L m):=by
 induction h with
 | refl=>exact fun _ _ _ h=>h
 | step _ ih=>exact fun c s r hr=>ahc P L _ c s r (ih c s r hr)
end
section
open Go
section
variable {O:bl} {self:cy}
def eC.none {m:Mp} {S:Nat->Prop} {w:yh} {s s':St} {ex:Ex} {n lo:Nat} {a:Act} {w':yh} (l:Nat):¬eC O m S w s ex s' n lo (.goto l) a w':=by
 rintro ⟨h,_⟩;cases ex<;>cases h
def eC.then {m m1:Mp} {S S1:Nat->Prop} {w w1:yh} {s s1 s2:St} {ex:Ex} {n lo:Nat} {a':Act} {w':yh} {e:uh} {ex1:Ex} (h1:s1.base=s.base)
  (hf:b8 m S w s.hp m1 S1 w1 s1.hp s.base) (h:eC O m1 S1 w1 s1 ex s2 n lo e a' w'):eC O m S w s ex s2 n lo e a' w':=by
 obtain ⟨h2,m',S',k1,k2,k3,k4,k5,k6,k7⟩:=h;rw [h1] at k3 k4 k5;exact ⟨h2,m',S',k1,k2,k3,k4,hf.trans k5,k6,k7⟩
def eC.dN {m:Mp} {S:Nat->Prop} {w:yh} {s s1:St} {n lo:Nat} {a':Act} {w':yh} {e:uh} {ex:Ex} (live:List Nat) (h:eC O m S w s ex s1 n lo e a' w'):eC O m S w s ex (aQ live s1) n lo e a' w':=by
 obtain ⟨h2,m',S',k1,k2,k3,k4,k5,k6,k7⟩:=h;obtain ⟨m2,g1,g2,g3,g4,g5⟩:=PM (live:=live) k1 k2 (by rw [k3];exact k4)
 rw [k3] at g3 g4 g5;exact ⟨h2,m2,S',g1,g2,g3,g4,k5.trans g5,k6,zQ k2 g5 k7⟩
def ahd {m:Mp} {w:yh} {tmps:Array yf}:∀{ts:List Nat} {s s1:St} {S:Nat->Prop},b7 O m S w s.tm tmps->aT O m S w s.hp s.ct->ot ts s=some s1->
  ∃S1,b7 O m S1 w s1.tm tmps/\aT O m S1 w s1.hp s1.ct/\s1.base=s.base/\s1.ct=s.ct/\∀base,b8 m S w s.hp m S1 w s1.hp base
 | [],s,s1,S,ht,hh,h=>by
  simp only [ot,yd] at h;subst h;exact ⟨S,ht,hh,rfl,rfl,fun _=>b8.refl⟩
 | t::r,s,s1,S,ht,hh,h=>by
  simp only [ot] at h
  cases hz:freeze deep s.hp (aj s.tm t) with
  | none=>simp [hz] at h
  | some q=>
   obtain ⟨v,hp⟩:=q;simp only [hz] at h;obtain ⟨h1,h2,h3⟩:=P1 (O:=O) hz;have hg:hZ s.hp s.ct hp s.ct:=⟨h1,yo _,fun id o ho=>(by
     have:=h2 id
     rw [ho] at this
     cases hq:aB s.hp id with
     | none=>rw [hq] at this;simp at this
     | some o'=>exact hh.aW id o' hq),fun id o ho _=>(by
     have:=h2 id
     rw [ho] at this
     cases hq:aB s.hp id with
     | none=>rw [hq] at this;simp at this
     | some o'=>exact ⟨o',rfl⟩)⟩
   obtain ⟨S',k1,k2,k3,k4⟩:=Lk hh hg;have jE:b7 O m S' w ((t,v)::s.tm) tmps:=by
    intro i;simp only [aj]
    cases hb:yx t i with
    | true=>
     have:=ym hb
     subst this;exact (h3 hp m S' w s.ct cY.refl k1).1 _ (lB (fun _ _ h=>h) k2 (fun _ _=>rfl) _ _ (ht t))
    | false=>
     exact lB (fun _ _ h=>h) k2 (fun _ _=>rfl) _ _ (ht i)
   obtain ⟨S1,g1,g2,g3,g4,g5⟩:=ahd (s:={s with tm:=(t,v)::s.tm,hp:=hp}) jE k1 h;exact ⟨S1,g1,g2,g3,g4,fun base=>(k4 base).trans (g5 base)⟩
def ac1 (hO:eA O) (n:Nat) (hC:∀k,k<=n->nc O (ev O.prog O.aD k)) (h:Nat):∀(c:wL) (l k:Nat) (j:Nat),j<=n->∀(s:St) (ex:Ex) (s':St),
  bF O.prog O.aD (ev O.prog O.aD j) (comp O.P (O.hint h) c l k).1 s=some (ex,s')->An O h c s ex s':=by
 have refl:∀{s:St} {ex:Ex} {m:Mp} {S:Nat->Prop} {w:yh} {a:Act} {lo:Nat},b7 O m S w s.tm a.tmps->aT O m S w s.hp s.ct->s.base<=s.ct->Marks lo S w a.defers->eC O m S w s ex s a.tmps.size lo (pR ex) a w:=
  fun h1 h2 h3 h4=>⟨rfl,_,_,h1,h2,rfl,h3,b8.refl,rfl,h4⟩
 have Sp:∀{self:cy} {s:St} {r:Ex×St},bF O.prog O.aD self (.aJ [⟨none,none,bad⟩]) s=some r->False:=by
  intro self s r hv;simp [bF,dA,bad,a8,ez,aE] at hv
 intro c
 induction c with
 | skip=>
  intro l k j hj s ex s' hv ro lo m S w a cD ht hh hb hn bf eL cL;simp only [comp,bF,yd,yj] at hv;obtain ⟨rfl,rfl⟩:=hv;exact wpIn_skip (refl ht hh hb cL)
 | label x=>
  intro l k j hj s ex s' hv ro lo m S w a cD ht hh hb hn bf eL cL;simp only [comp,bF,yd,yj] at hv;obtain ⟨rfl,rfl⟩:=hv;exact wpIn_label (refl ht hh hb cL)
 | exit id=>
  intro l k j hj s ex s' hv ro lo m S w a cD ht hh hb hn bf eL cL;simp only [comp,bF,yd,yj] at hv;obtain ⟨rfl,rfl⟩:=hv
  exact wpIn_exit (refl (ex:= .exit id) ht hh hb cL)
 | ret=>
  intro l k j hj s ex s' hv ro lo m S w a cD ht hh hb hn bf eL cL;simp only [comp,bF,yd,yj] at hv;obtain ⟨rfl,rfl⟩:=hv
  exact wpIn_ret (refl (ex:= .ret) ht hh hb cL)
 | goto x=>intro l k j hj s ex s' hv;exact (Sp (by simpa only [comp] using hv)).elim
 | refuse x=>intro l k j hj s ex s' hv;exact (Sp (by simpa only [comp] using hv)).elim
 | region id ops d=>
  intro l k j hj s ex s' hv;simp only [comp] at hv;generalize hq:LA O.P (O.hint h) ops d k=q at hv;obtain ⟨r,k'⟩:=q;have main:∀{s s':St} {ex:Ex},bF O.prog O.aD (ev O.prog O.aD j) (.aJ r) s=some (ex,s')->An O h (.region id ops d) s ex s':=by
   intro s s' ex hv;simp only [bF] at hv
   cases ho:dA O.prog O.aD (ev O.prog O.aD j) r s with
   | none=>simp [ho] at hv
   | some s1=>
    simp only [ho,yd,yj] at hv;obtain ⟨rfl,rfl⟩:=hv;exact auf hO (hC j hj) h id ops d k (by rw [hq];exact ho)
  simp only at hv
  split at hv
  ·exact main hv
  ·rename_i t ts _;simp only [bF] at hv
   cases hf:ot (t::ts) s with
   | none=>simp [hf] at hv
   | some s1=>
    simp only [hf] at hv;intro ro lo m S w a cD ht hh hb hn bf eL cL;obtain ⟨S1,g1,g2,g3,g4,g5⟩:=ahd ht hh hf;have h1:=main (s:=s1) (by simpa only [bF] using hv) ro lo m S1 w a cD g1 g2 (by rw [g3,g4];exact hb) hn bf eL (zQ hh (g5 s.base) cL)
    refine wpIn_mono h1 (fun e a' w' hp=>?_)
    exact eC.then (ex1:= .normal) g3 (g5 s.base) hp
 | seq x y ihx ihy=>
  intro l k j hj s ex s' hv ro lo m S w a cD ht hh hb hn bf eL cL;simp only [comp] at hv;generalize rJ:comp O.P (O.hint h) x l k=qx at hv;obtain ⟨x',l1,k1⟩:=qx;simp only at hv;generalize JT:comp O.P (O.hint h) y l1 k1=qy at hv;obtain ⟨y',l2,k2⟩:=qy;simp only [bF] at hv
  cases hx:bF O.prog O.aD (ev O.prog O.aD j) x' s with
  | none=>simp [hx] at hv
  | some r=>
   obtain ⟨ex1,s1⟩:=r;have h1:=ihx l k j hj s ex1 s1 (by rw [rJ];exact hx) ro lo m S w a cD ht hh hb hn bf eL cL
   refine wpIn_seq (wpIn_mono h1 ?_);rintro e a1 w1 ⟨rfl,m1,S1,g1,g2,g3,g4,g5,g6,g7⟩;have stop:ex1≠.normal->ex=ex1/\s'=s1:=by
    intro bN;rw [hx] at hv
    cases ex1 with
    | normal=>exact absurd rfl bN
    | ret=>simp only [yd,yj] at hv;exact ⟨hv.1.symm,hv.2.symm⟩
    | exit id=>simp only [yd,yj] at hv;exact ⟨hv.1.symm,hv.2.symm⟩
   cases ex1 with
   | normal=>
    simp only [hx] at hv;simp only [pR,Exit.then];have h2:=ihy l1 k1 j hj s1 ex s' (by rw [JT];exact hv) ro lo m1 S1 w1 a1 (K4 g5 cD) g1 g2 (by rw [g3];exact g4) (by rw [g6];exact hn) bf (xf eL g5.size) g7
    rw [g6] at h2
    exact wpIn_mono h2 (fun e a' w' hp=>eC.then (ex1:= .normal) g3 g5 hp)
   | ret=>
    obtain ⟨rfl,rfl⟩:=stop (by simp);exact ⟨rfl,m1,S1,g1,g2,g3,g4,g5,g6,g7⟩
   | exit id=>
    obtain ⟨rfl,rfl⟩:=stop (by simp);exact ⟨rfl,m1,S1,g1,g2,g3,g4,g5,g6,g7⟩
 | cond x p q ihp ihq=>
  intro l k j hj s ex s' hv ro lo m S w a cD ht hh hb hn bf eL cL;simp only [comp] at hv;generalize rJ:comp O.P (O.hint h) p (l+1) k=qx at hv;obtain ⟨p',l1,k1⟩:=qx;simp only at hv;generalize JT:comp O.P (O.hint h) q l1 k1=qy at hv;obtain ⟨q',l2,k2⟩:=qy;simp only at hv;have main:∀(ex:Ex) (s':St),bF O.prog O.aD (ev O.prog O.aD j) (.cond (aK (O.hint h) x) p' q') s=some (ex,s')->(Code.cond x p q).wpIn (WF ro) 0 O.P (eC O m S w s ex s' a.tmps.size lo) a w:=by
   intro ex s' hv;simp only [bF] at hv;have rx:=cw (hO.hint h) ht x
   split at hv
   ·rename_i t hx;rw [hx] at rx;simp only [ah] at rx
    cases t with
    | true=>
     simp only [yB] at hv;exact wpIn_cond_true rx (ihp (l+1) k j hj s ex s' (by rw [rJ];exact hv) ro lo m S w a cD ht hh hb hn bf eL cL)
    | false=>
     simp only [yS] at hv;exact wpIn_cond_false rx (ihq l1 k1 j hj s ex s' (by rw [JT];exact hv) ro lo m S w a cD ht hh hb hn bf eL cL)
   ·cases hv
  cases El:(O.hint h).out l with
  | none=>rw [El] at hv;exact main ex s' hv
  | some live=>
   rw [El] at hv;simp only at hv;rw [show bF O.prog O.aD (ev O.prog O.aD j) (.seq (.cond (aK (O.hint h) x) p' q') (.kp live)) s=match bF O.prog O.aD (ev O.prog O.aD j) (.cond (aK (O.hint h) x) p' q') s with | some (.normal,s1)=>some (.normal,aQ live s1) | r=>r from rfl] at hv
   cases hx:bF O.prog O.aD (ev O.prog O.aD j) (.cond (aK (O.hint h) x) p' q') s with
   | none=>simp [hx] at hv
   | some r=>
    obtain ⟨ex1,s1⟩:=r;have h1:=main ex1 s1 hx;rw [hx] at hv
    cases ex1 with
    | normal=>
     simp only [yd,yj] at hv;obtain ⟨rfl,rfl⟩:=hv;exact wpIn_mono h1 (fun e a' w' hp=>eC.dN live hp)
    | ret=>simp only [yd,yj] at hv;obtain ⟨rfl,rfl⟩:=hv;exact h1
    | exit id=>simp only [yd,yj] at hv;obtain ⟨rfl,rfl⟩:=hv;exact h1
 | block id x ih=>
  intro l k j hj s ex s' hv ro lo m S w a cD ht hh hb hn bf eL cL;simp only [comp] at hv;generalize rJ:comp O.P (O.hint h) x l k=qx at hv;obtain ⟨x',r⟩:=qx;simp only at hv;have main:∀(ex:Ex) (s':St),bF O.prog O.aD (ev O.prog O.aD j) (.aF id x') s=some (ex,s')->(Code.block id x).wpIn (WF ro) 0 O.P (eC O m S w s ex s' a.tmps.size lo) a w:=by
   intro ex s' hv;simp only [bF] at hv
   cases hx:bF O.prog O.aD (ev O.prog O.aD j) x' s with
   | none=>simp [hx] at hv
   | some q=>
    obtain ⟨ex1,s1⟩:=q;have h1:=ih l k j hj s ex1 s1 (by rw [rJ];exact hx) ro lo m S w a cD ht hh hb hn bf eL cL
    refine wpIn_block (wpIn_mono h1 ?_);rintro e a1 w1 ⟨rfl,g⟩
    cases ex1 with
    | normal=>
     simp only [hx,yd,yj] at hv;obtain ⟨rfl,rfl⟩:=hv;exact ⟨rfl,g⟩
    | ret=>
     simp only [hx,yd,yj] at hv;obtain ⟨rfl,rfl⟩:=hv;exact ⟨rfl,g⟩
    | exit i=>
     simp only [hx] at hv
     cases OD:yx i id with
     | true=>
      rw [OD] at hv;simp only [yB,yd,yj] at hv;obtain ⟨rfl,rfl⟩:=hv
      have:=ym OD
      subst this;simp only [pR,Exit.inBlock,xA];exact ⟨rfl,g⟩
     | false=>
      rw [OD] at hv;simp only [yS,yd,yj] at hv;obtain ⟨rfl,rfl⟩:=hv;have bN:i≠id:=fun e=>by subst e;simp at OD
      simp only [pR,Exit.inBlock,bN,xd];exact ⟨rfl,g⟩
  have ayb:∀live:List Nat,bF O.prog O.aD (ev O.prog O.aD j) (.seq (.aF id x') (.kp live)) s=some (ex,s')->(Code.block id x).wpIn (WF ro) 0 O.P (eC O m S w s ex s' a.tmps.size lo) a w:=by
   intro live hv;rw [show bF O.prog O.aD (ev O.prog O.aD j) (.seq (.aF id x') (.kp live)) s=match bF O.prog O.aD (ev O.prog O.aD j) (.aF id x') s with | some (.normal,s1)=>some (.normal,aQ live s1) | r=>r from rfl] at hv
   cases hx:bF O.prog O.aD (ev O.prog O.aD j) (.aF id x') s with
   | none=>simp [hx] at hv
   | some r=>
    obtain ⟨ex1,s1⟩:=r;have h1:=main ex1 s1 hx;rw [hx] at hv
    cases ex1 with
    | normal=>
     simp only [yd,yj] at hv;obtain ⟨rfl,rfl⟩:=hv;exact wpIn_mono h1 (fun e a' w' hp=>eC.dN live hp)
    | ret=>simp only [yd,yj] at hv;obtain ⟨rfl,rfl⟩:=hv;exact h1
    | exit id=>simp only [yd,yj] at hv;obtain ⟨rfl,rfl⟩:=hv;exact h1
  split at hv
  ·exact ayb _ hv
  ·exact main ex s' hv
 | loop x ih=>
  intro l k j hj s ex s' hv;simp only [comp] at hv;generalize rJ:comp O.P (O.hint h) x (l+1) k=qx at hv;obtain ⟨x',r⟩:=qx;simp only at hv;have rounds:∀(j:Nat),j<=n->∀(s:St) (ex:Ex) (s':St),bF O.prog O.aD (ev O.prog O.aD j) (.loop ((O.hint h).live l) x') s=some (ex,s')->∃K,∀(ro:Option Nat) (lo:Nat) (m:Mp) (S:Nat->Prop) (w:yh) (a:Act),su ro w->b7 O m S w s.tm a.tmps->aT O m S w s.hp s.ct->s.base<=s.ct->(O.hint h).n<=a.tmps.size->O.w0.heap.size<=lo->lo<=w.heap.size->Marks lo S w a.defers->
    Code.roundsIn (WF ro) 0 O.P x (eC O m S w s ex s' a.tmps.size lo) K a w:=by
   intro j
   induction j with
   | zero=>
    intro hj s ex s' hv;simp only [bF] at hv
    cases hx:bF O.prog O.aD (ev O.prog O.aD 0) x' (aQ ((O.hint h).live l) s) with
    | none=>simp [hx] at hv
    | some q=>
     obtain ⟨ex1,s1⟩:=q;have stop:ex1≠.normal->ex=ex1/\s'=s1:=by
      intro bN;rw [hx] at hv
      cases ex1 with
      | normal=>exact absurd rfl bN
      | ret=>simp only [yd,yj] at hv;exact ⟨hv.1.symm,hv.2.symm⟩
      | exit id=>simp only [yd,yj] at hv;exact ⟨hv.1.symm,hv.2.symm⟩
     refine ⟨1,fun ro lo m S w a cD ht hh hb hn bf eL cL=>?_⟩;rw [roundsIn_succ];obtain ⟨m1,c1,c2,c3,c4,c5⟩:=PM (live:=(O.hint h).live l) ht hh hb;have h1:=ih (l+1) k 0 hj _ ex1 s1 (by rw [rJ];exact hx) ro lo m1 S w a cD c1 c2 (by rw [c3];exact c4) hn bf eL cL
     refine wpIn_mono h1 ?_;rintro e a1 w1 hp;have ap:=eC.then (O:=O) (m:=m) (S:=S) (w:=w) (s:=s) (ex1:= .normal) c3 c5 hp;obtain ⟨rfl,_⟩:=hp
     cases ex1 with
     | normal=>simp only [hx,Hu] at hv;cases hv
     | ret=>obtain ⟨rfl,rfl⟩:=stop (by simp);exact ap
     | exit id=>obtain ⟨rfl,rfl⟩:=stop (by simp);exact ap
   | succ j ihj=>
    intro hj s ex s' hv;simp only [bF] at hv
    cases hx:bF O.prog O.aD (ev O.prog O.aD (j+1)) x' (aQ ((O.hint h).live l) s) with
    | none=>simp [hx] at hv
    | some q=>
     obtain ⟨ex1,s1⟩:=q;have stop:ex1≠.normal->ex=ex1/\s'=s1:=by
      intro bN;rw [hx] at hv
      cases ex1 with
      | normal=>exact absurd rfl bN
      | ret=>simp only [yd,yj] at hv;exact ⟨hv.1.symm,hv.2.symm⟩
      | exit id=>simp only [yd,yj] at hv;exact ⟨hv.1.symm,hv.2.symm⟩
     have more:∃K,ex1= .normal->∀(ro:Option Nat) (lo:Nat) (m:Mp) (S:Nat->Prop) (w:yh) (a:Act),su ro w->b7 O m S w s1.tm a.tmps->aT O m S w s1.hp s1.ct->s1.base<=s1.ct->(O.hint h).n<=a.tmps.size->O.w0.heap.size<=lo->lo<=w.heap.size->Marks lo S w a.defers->
       Code.roundsIn (WF ro) 0 O.P x (eC O m S w s1 ex s' a.tmps.size lo) K a w:=by
      cases ex1 with
      | normal=>
       rw [hx] at hv;have ek:ev O.prog O.aD (j+1) (.loop ((O.hint h).live l) x') s1=some (ex,s'):=hv;rw [Hv] at ek;obtain ⟨K,hK⟩:=ihj (by omega) s1 ex s' ek;exact ⟨K,fun _=>hK⟩
      | ret=>exact ⟨0,fun h=>by cases h⟩
      | exit id=>exact ⟨0,fun h=>by cases h⟩
     obtain ⟨K,hK⟩:=more;refine ⟨K+1,fun ro lo m S w a cD ht hh hb hn bf eL cL=>?_⟩;rw [roundsIn_succ];obtain ⟨m1,c1,c2,c3,c4,c5⟩:=PM (live:=(O.hint h).live l) ht hh hb;have h1:=ih (l+1) k (j+1) hj _ ex1 s1 (by rw [rJ];exact hx) ro lo m1 S w a cD c1 c2 (by rw [c3];exact c4) hn bf eL cL
     refine wpIn_mono h1 ?_;rintro e a1 w1 hp;have ap:=eC.then (O:=O) (m:=m) (S:=S) (w:=w) (s:=s) (ex1:= .normal) c3 c5 hp;obtain ⟨rfl,_⟩:=hp
     cases ex1 with
     | normal=>
      simp only [pR,Exit.then];obtain ⟨_,m2,S2,g1,g2,g3,g4,g5,g6,g7⟩:=ap;have h2:=hK rfl ro lo m2 S2 w1 a1 (K4 g5 cD) g1 g2 (by rw [g3];exact g4) (by rw [g6];exact hn) bf (xf eL g5.size) g7
      rw [g6] at h2;revert h2;generalize hA:a.tmps.size=sz;intro h2;have step:∀(K:Nat) (a':Act) (w':yh),Code.roundsIn (WF ro) 0 O.P x (eC O m2 S2 w1 s1 ex s' sz lo) K a' w'->Code.roundsIn (WF ro) 0 O.P x (eC O m S w s ex s' sz lo) K a' w':=by
       intro K
       induction K with
       | zero=>intro a' w' A2;exact A2
       | succ K ihK=>
        intro a' w' A2;rw [roundsIn_succ] at A2 ⊢;refine wpIn_mono A2 (fun e a'' Om hq=>?_)
        cases e with
        | normal=>exact ihK a'' Om hq
        | exit id=>exact eC.then (ex1:= .normal) g3 g5 hq
        | goto x=>exact eC.then (ex1:= .normal) g3 g5 hq
        | ret=>exact eC.then (ex1:= .normal) g3 g5 hq
        | panic x=>exact eC.then (ex1:= .normal) g3 g5 hq
        | outgrown=>exact eC.then (ex1:= .normal) g3 g5 hq
      exact step K a1 w1 h2
     | ret=>obtain ⟨rfl,rfl⟩:=stop (by simp);exact ap
     | exit id=>obtain ⟨rfl,rfl⟩:=stop (by simp);exact ap
  obtain ⟨K,hK⟩:=rounds j hj s ex s' hv;intro ro lo m S w a cD ht hh hb hn bf eL cL;exact wpIn_loop_rounds K (hK ro lo m S w a cD ht hh hb hn bf eL cL)
 | scope x ih=>
  intro l k j hj s ex s' hv ro lo m S w a cD ht hh hb hn bf eL cL;simp only [comp] at hv;exact am4 (ih l k j hj s ex s' hv ro lo m S w a cD ht hh hb hn bf eL cL) (fun l a w=>eC.none l)
 | rangeFunc f ps cJ body iha ihb=>
  intro l k j hj s ex s' hv;simp only [comp] at hv;generalize rJ:comp O.P (O.hint h) cJ l k=qx at hv;obtain ⟨x',l1,k1⟩:=qx;simp only at hv;generalize JT:comp O.P (O.hint h) body l1 k1=qy at hv;obtain ⟨y',l2,k2⟩:=qy;simp only at hv
  cases ha:sE (O.hint h).n ps.toList with
  | false=>rw [ha] at hv;exact (Sp hv).elim
  | true=>
   rw [ha] at hv;exact aya hO (hC j hj) ⟨l,k,by rw [rJ]⟩ ⟨l1,k1,by rw [JT]⟩ ha hv
end
end
section
open Go
section
variable {O:bl} {m:Mp} {S:Nat->Prop} {w:yh}
def abf:∀(aq:List AV) (j i:Nat),aj (eO j aq) (j+i)=aq.getD i .undef
 | [],j,i=>by simp [eO,aj]
 | v::r,j,i=>by
  cases i with
  | zero=>simp [eO,aj]
  | succ i=>
   simp only [eO,aj];have hb:yx j (j+(i+1))=false:=by
    cases hq:yx j (j+(i+1)) with
    | false=>rfl
    | true=>have:=ym hq;omega
   rw [hb,show j+(i+1)=j+1+i by omega];rw [abf r (j+1) i]
   simp
def abg {aq:List AV} {args:Array yf} (n:Nat) (h:az O.af m S w aq args.toList):b7 O m S w (eO 0 aq) (args++vK n undef):=by
 intro i
 have:=abf aq 0 i
 rw [yg] at this;rw [this,List.getD_eq_getElem?_getD]
 cases hv:aq[i]? with
 | none=>simp only [Option.getD_none,ah]
 | some v=>
  obtain ⟨u,h1,h2⟩:=Qi h hv;have hl:i<args.size:=by
   grind
  have:(args++vK n undef).getD i undef=u:=by
   rw [wV,Array.getElem?_append_left hl]
   grind
  grind
def Em (tmps:Array yf):ybI->Sem yf
 | .tmp t=>pure (tmps.getD t undef)
 | .cell a t=>do loadVar t (<-asAddr (tmps.getD a undef))
def am5 (fn:tD) (tmps:Array yf):results fn tmps=(do let vs <-fn.results.mapM (Em tmps);pure (if h:vs.size=1 then vs[0] else .tuple vs)):=by
 rfl
def PO {s:St} {ct:Nat} {tmps:Array yf} (hh:aT O m S w s.hp ct) (ht:b7 O m S w s.tm tmps):∀{rs:List ybI} {rv:List RV} {vs:List AV},n5 O.P rs=some rv->kJ s rv=some vs->
  ∃us,(rs.mapM (Em tmps)).run O.P w= .ok us w/\az O.af m S w vs us
 | [],rv,vs,h1,h2=>by
  simp only [n5,yd] at h1;subst h1;simp only [kJ,yd] at h2;subst h2;exact ⟨[],by simp,by simp [az]⟩
 | .tmp t::rs,rv,vs,h1,h2=>by
  simp only [n5] at h1
  cases hc:n5 O.P rs with
  | none=>simp [hc] at h1
  | some l=>
   simp only [hc,yd] at h1;subst h1;simp only [kJ,results1] at h2
   cases hl:kJ s l with
   | none=>simp [hl] at h2
   | some XY=>
    simp only [hl,yd] at h2;subst h2;obtain ⟨us,g1,g2⟩:=PO hh ht hc hl;refine ⟨tmps.getD t undef::us,?_,by simp only [az];exact ⟨_,_,rfl,ht t,g2⟩⟩
    rw [vU];simp only [Em,Sem.run_bind,Sem.run_pure,Result.andThen_ok];rw [g1];rfl
 | .cell a t::rs,rv,vs,h1,h2=>by
  simp only [n5] at h1
  cases hz:cK O.P t with
  | none=>simp [hz] at h1
  | some sz=>
   cases JU:dE O.P t with
   | none=>simp [hz,JU] at h1
   | some ag=>
    cases hc:n5 O.P rs with
    | none=>simp [hz,JU,hc] at h1
    | some l=>
     simp only [hz,JU,hc,yd] at h1;subst h1;simp only [kJ] at h2
     cases cV:results1 s (.cell a sz ag) with
     | none=>simp [cV] at h2
     | some v=>
      cases hl:kJ s l with
      | none=>simp [cV,hl] at h2
      | some XY=>
       simp only [cV,hl,yd] at h2;subst h2;obtain ⟨us,g1,g2⟩:=PO hh ht hc hl;have ra:=ht a;have key:∃b o u,tmps.getD a undef= .pointer (some ⟨b,o,none⟩)/\(loadVar t ⟨b,o,none⟩).run O.P w= .ok u w/\ah O.af m S w v u:=by
        simp only [results1] at cV;cases hta:aj s.tm a<;>rw [hta] at cV ra<;>simp only [reduceCtorEq] at cV
        ·rename_i id o;simp only [ah] at ra;obtain ⟨p,hm,hp⟩:=ra
         cases hg:aB s.hp id with
         | none=>simp [hg] at cV
         | some ob=>
          cases ob<;>simp only [hg,reduceCtorEq] at cV
          have Yq:=Qh (o:=0) (n:=0) hh hg hm;obtain ⟨u,q1,q2⟩:=LC hz JU (p9 o _ p.b p.o Yq) cV;exact ⟨p.b,p.o+o,u,hp,q1,q2⟩
        ·rename_i cs;simp only [ah] at ra;obtain ⟨b,o,hp,_,_,Yq⟩:=ra;obtain ⟨u,q1,q2⟩:=LC hz JU Yq cV;exact ⟨b,o,u,hp,q1,q2⟩
       obtain ⟨b,o,u,q1,q2,q3⟩:=key;refine ⟨u::us,?_,by simp only [az];exact ⟨_,_,rfl,q3,g2⟩⟩
       rw [vU]
       have:(Em tmps (.cell a t)).run O.P w= .ok u w:=by
        simp only [Em];rw [q1];simp [asAddr,q2]
       rw [Sem.run_bind,this,Result.andThen_ok,Sem.run_bind,g1];rfl
def amt {s:St} {ct:Nat} {tmps:Array yf} {fn:tD} {rv:List RV} {v:AV} (hh:aT O m S w s.hp ct) (ht:b7 O m S w s.tm tmps) (h1:n5 O.P fn.results.toList=some rv) (h2:ik s rv=some v):
  ∃u,(results fn tmps).run O.P w= .ok u w/\ah O.af m S w v u:=by
 unfold ik at h2
 cases hl:kJ s rv with
 | none=>simp [hl] at h2
 | some vs=>
  obtain ⟨us,g1,g2⟩:=PO hh ht h1 hl;have hlen:=il _ _ g2;have hm:(fn.results.mapM (Em tmps)).run O.P w= .ok us.toArray w:=by
   rw [Array.mapM_eq_mapM_toList];simp [g1]
  have fQ:(results fn tmps).run O.P w= .ok (if h:us.toArray.size=1 then us.toArray[0] else .tuple us.toArray) w:=by
   rw [am5,Sem.run_bind,hm];rfl
  rw [hl] at h2
  split at h2
  ·rename_i v' nK;simp only [yd] at nK h2;subst nK;simp only [az] at g2
   grind
  ·rename_i dQ bN nK;simp only [yd] at nK h2;subst nK;subst h2;have h1:¬us.toArray.size=1:=by
    intro h
    have:vs.length=1:=by simp_all
    cases vs with
    | nil=>simp at this
    | cons x t=>
     cases t with
     | nil=>exact bN x rfl
     | cons y t=>simp at this
   simp only [ah]
   grind
  ·grind
def P7 {s:St} {tmps:Array yf} {fn:tD} {rv:List RV} {v:AV} {m0:Mp} {S0:Nat->Prop} {w0:yh} {hp0:Hp} {OE:Nat} (h1:n5 O.P fn.results.toList=some rv) (h2:ik s rv=some v) (fU:OE<=s.ct):∀(rs:List Nat) (w:yh),
  rs.Nodup->(∀r,r∈rs->w.heap[r]? =some (.deferred (some []))/\¬S r/\w0.heap.size<=r)->O.w0.heap.size<=w0.heap.size->aT O m S w s.hp s.ct->b7 O m S w s.tm tmps->b8 m0 S0 w0 hp0 m S w s.hp OE->
  ybL Fence.wide 0 O.P fn tmps (r5 O m0 S0 w0 hp0 OE v s.hp s.ct) (rs.map (fun r=>{target:= .collected r,args:=#[]})) .returning w
 | [],w,_,_,_,hh,ht,hf=>by
  obtain ⟨u,g1,g2⟩:=amt hh ht h1 h2;exact ⟨u,g1,u,m,S,rfl,hh,fU,g2,hf⟩
 | r::rs,w,kZ,hr,bf,hh,ht,hf=>by
  obtain ⟨ja,dV⟩:=List.nodup_cons.1 kZ;obtain ⟨a1,a2,a3⟩:=hr r List.mem_cons_self;have eB:=Dm w r (.deferred none);have nI:¬dR m s.hp r:=fun ho=>abX hh ho _ a1
  have A2:=aat hh eB a2 nI (xf bf a3)
  have aP:fA S w {w with heap:=w.heap.setIfInBounds r (.deferred none)}:=fun b hb=>eB.other b (fun e=>a2 (e▸hb))
  have AX:b8 m0 S0 w0 hp0 m S {w with heap:=w.heap.setIfInBounds r (.deferred none)} s.hp OE:=by
   refine ⟨hf.os,hf.tape,hf.output,by rw [eB.size];exact hf.size,fun b hb ho=>(eB.other b (by omega)).trans (hf.same b hb ho),hf.sub,fun b hb=>(eB.other b (fun e=>a2 (e▸hf.sub b hb))).trans (hf.still b hb),hf.new,hf.own,hf.old,fun b x hb=>?_⟩
   obtain ⟨x',hx⟩:=hf.loops b x hb;exact ⟨x',(eB.other b (fun e=>by subst e;rw [a1] at hx;cases hx)).trans hx⟩
  refine ⟨by simp,.inl ⟨r,_,rfl,?_,P7 h1 h2 fU rs _ dV (fun r' bR=>?_) bf A2 (zP (fun _ _ h=>h) (fun _ h=>h) aP ht) AX⟩⟩
  ·simp only [Instr.takeDeferred,Sem.run_bind,aau (P:=O.P) a1 (fun _ _ _=>by simp),Result.andThen_ok,KR (P:=O.P) a1 (fun _ _ _=>by simp),Sem.run_pure]
  ·obtain ⟨b1,b2,b3⟩:=hr r' (List.mem_cons_of_mem _ bR);exact ⟨(eB.other r' (fun e=>ja (e▸bR))).trans b1,b2,b3⟩
end
section
variable {O:bl} {self:cy}
def ayc (hO:eA O) (hS:∀v s ex s',self v s=some (ex,s')->∀c h l k,(comp O.P (O.hint h) c l k).1=v->An O h c s ex s') {n:Nat} {F:aX} (hF:O.prog n=some F) {hp:Hp} {ct:Nat} {aq:List AV} {ex:Ex} {s:St}
  (hv:self F.body ⟨eO 0 aq,hp,ct,ct⟩=some (ex,s)) (hex:ex= .normal\/ex= .ret) {v:AV} (hr:ik s F.fT=some v):Am O n hp ct aq v s.hp s.ct:=by
 intro m S w args hh gh;obtain ⟨fn,q1,q2,q3⟩:=hO.prog n F hF;obtain ⟨c,q4,q5,q6,q7⟩:=PD q2;refine .inl ⟨Ln q1 (by rw [q4];rfl) q3,?_⟩
 have hc:=hS _ _ _ _ hv c n 0 0 q5.symm;have hw:=hc none w.heap.size m S w {tmps:=args++vK (fn.ntmps-args.size) undef,defers:=[]} (fun l hl=>by cases hl) (abg _ gh) hh (yo _) (by simp;omega) hh.fB (yo _) ⟨[],rfl,by simp,by simp⟩
 refine callsIn_of_wp_marks (F:=Fence.wide) q1 q4 trivial (wpIn_mono hw ?_);rintro e a' w' ⟨rfl,m',S',k1,k2,k3,k4,k5,k6,rs,k7,k8,k9⟩;have main:ybL Fence.wide 0 O.P fn a'.tmps (r5 O m S w hp ct v s.hp s.ct) a'.defers .returning w':=by
  rw [k7];exact P7 q6 hr k4 rs w' k8 k9 hh.fB k2 k1 k5
 rcases hex with rfl | rfl
 ·exact main
 ·exact main
def zY.mono {P:y8} {f:tI} {args:Array yf} {w:yh} {R R':Ending->yh->Prop} (h:zY P f args w R) (hr:∀e w',R e w'->R' e w'):zY P f args w R':=by
 rcases h with ⟨h1,h2⟩ | ⟨u,w',h1,h2⟩
 ·exact .inl ⟨h1,CallsIn.mono h2 hr⟩
 ·exact .inr ⟨u,w',h1,hr _ _ h2⟩
def an4 {w:yh} {S:Nat->Prop} (hg:Al O w) (hs:∀b,S b->b<w.heap.size):aT O eI S w [] 0:=
 ⟨(fun id o p h _=>by simp [aB] at h),(fun id p h=>by cases h),(fun i j oi oj pi pj h=>by simp [aB] at h),hs,(fun id p h=>by cases h),(fun id p h=>by cases h),hg.1,hg.2,(fun id o h=>by simp [aB] at h)⟩
def Qs {b:Nat} (h:dR eI [] b):False:=by
 obtain ⟨_,_,_,h,_⟩:=h;simp [aB] at h
def Px {n:Nat} {aq:List AV} {v r:AV} {s:St} (h:Am O n [] 0 aq v s.hp s.ct) (hr:result s.hp v=some r):ef O n aq r:=by
 intro w S args hg hs gh hp;refine zY.mono (h eI S w args (an4 hg hs) gh) ?_;rintro e w' ⟨u,m',S',rfl,k1,k2,k3,k4⟩;have bf:∀b,dR m' s.hp b->w.heap.size<=b:=fun b hb=>(k4.own b hb).elim (fun h=>(Qs h).elim) (fun h=>h)
 obtain ⟨S2,g1,g2,g3,g4⟩:=anV (lo:=w.heap.size) k1 hr k3 bf;refine ⟨u,S2,rfl,⟨k4.os,k4.tape,k4.output,k4.size,fun b hb=>k4.same b hb Qs⟩,fun b hb=>g1 b (k4.sub b hb),fun b hb=>?_,g3,g4⟩;rcases g2 b hb with h | h
 ·rcases k4.new b h with h | h | h
  ·exact .inl h
  ·exact (Qs h).elim
  ·exact .inr h
 ·exact .inr (bf b h)
def am6 (hO:eA O) (hS:∀v s ex s',self v s=some (ex,s')->∀c h l k,(comp O.P (O.hint h) c l k).1=v->An O h c s ex s'):nc O self:=by
 have heap:∀(n:Nat) (F:aX),O.prog n=some F->∀(hp:Hp) (ct:Nat) (aq:List AV) (ex:Ex) (s:St) (v:AV),self F.body ⟨eO 0 aq,hp,ct,ct⟩=some (ex,s)->(ex= .normal\/ex= .ret)->ik s F.fT=some v->Am O n hp ct aq v s.hp s.ct:=
  fun n F hF hp ct aq ex s v h1 h2 h3=>ayc hO hS hF h1 h2 h3
 refine ⟨?_,?_,fun hp ct l xs v ap aY hv=>apU hS hv⟩
 ·intro n aq r hv;unfold bH at hv
  cases hL:O.aD.pure n with
  | some sp=>rw [hL] at hv;exact hO.aD n sp aq r hL hv
  | none=>
   simp only [hL] at hv
   cases hF:O.prog n with
   | none=>simp [hF] at hv
   | some F=>
    simp only [hF] at hv
    split at hv
    ·rename_i s hb
     cases hr:ik s F.fT with
     | none=>simp [hr] at hv
     | some v=>simp only [hr] at hv;exact Px (heap n F hF [] 0 aq .normal s v hb (.inl rfl) hr) hv
    ·rename_i s hb
     cases hr:ik s F.fT with
     | none=>simp [hr] at hv
     | some v=>simp only [hr] at hv;exact Px (heap n F hF [] 0 aq .ret s v hb (.inr rfl) hr) hv
    ·cases hv
 ·intro hp ct n aq v ap aY hv;unfold gZ at hv
  cases hL:O.aD.heap n with
  | some sp=>rw [hL] at hv;exact hO.Ek n sp hp ct aq v ap aY hL hv
  | none=>
   simp only [hL] at hv
   cases hF:O.prog n with
   | none=>simp [hF] at hv
   | some F=>
    grind
def Z4 (hO:eA O):∀n,nc O (ev O.prog O.aD n):=by
 intro n
 induction n using Nat.strongRecOn with
 | _ n ih=>
  refine am6 hO (fun v s ex s' hv c h l k hc=>?_)
  cases n with
  | zero=>rw [Hu] at hv;cases hv
  | succ n=>
   rw [Hv,<-hc] at hv;exact ac1 hO n (fun k hk=>ih k (by omega)) h c l k n (yo _) s ex s' hv
def sound (hO:eA O) {n f:Nat} {aq:List AV} {r:AV} (h:XZ O.prog O.aD n f aq=some r):ef O f aq r:=(Z4 hO n).pure f aq r h
end
end
section
open Go (IntKind)
def fP:List Nat->List Nat->Bool
 | [],_=>true
 | a::x,b::y=>yx a b&&fP x y
 | _::_,[]=>false
def lJ (sub:List Nat):List Nat->Nat->Option Nat
 | [],k=>bif fP sub [] then some k else none
 | b::r,k=>bif fP sub (b::r) then some k else lJ sub r (k+1)
def MM:List AV->Option AV
 | [.str s,.str sep]=>
  bif yP s.length 4294967281 then
   match lJ sep s 0 with
   | some i=>some (.ae [.str (s.take i),.str (s.drop (i+sep.length)),.bool true])
   | none=>some (.ae [.str s,.str [],.bool false])
  else none
 | _=>none
def KT:List AV->Option AV
 | [.str s,.str p]=>some (bif fP p s then .ae [.str (s.drop p.length),.bool true] else .ae [.str s,.bool false])
 | _=>none
def KU:List AV->Option AV
 | [.str s,.str p]=>some (.bool (fP p s))
 | _=>none
def KJ:List AV->Option AV
 | [.str s,.str p]=>some (.str (bif fP p s then s.drop p.length else s))
 | _=>none
def En (i:Nat):List Nat->Bool
 | []=>false
 | j::r=>bif yx j i then true else En i r
def jR (set:List Nat):List Nat->List Nat
 | []=>[]
 | b::r=>bif En b set then jR set r else b::r
def DN:List Nat->Bool
 | []=>true
 | b::r=>yP b 128&&DN r
def trimS:List AV->Option AV
 | [.str s,.str set]=>bif DN set&&(yP s.length 4294967281&&yP set.length 4294967281) then some (.str (jR set (jR set s.reverse).reverse)) else none
 | _=>none
def gm (s:List Nat):Nat->List Nat
 | 0=>[]
 | n+1=>s++gm s n
def zZ:List AV->Option AV
 | [.str s,.int .i64 (.ofNat n)]=>bif yF n 1099511627776&&yF (s.length*n) 1099511627776 then some (.str (gm s n)) else none
 | _=>none
def mu:Nat->Nat->List Nat->List Nat
 | 0,_,acc=>acc
 | f+1,n,acc=>bif yP n 10 then (48+n)::acc else mu f (n/10) ((48+n%10)::acc)
def aw (n:Nat):List Nat:=mu (n+1) n []
def aU:Int->List Nat
 | .ofNat n=>aw n
 | .negSucc n=>45::aw (n+1)
def Ao:Int->Bool
 | .ofNat n=>yP n 9223372036854775808
 | .negSucc n=>yP n 9223372036854775808
def Ip:List AV->Option AV
 | [.int .i64 n]=>bif Ao n then some (.str (aU n)) else none
 | _=>none
def zK:List AV->Option AV
 | [.int .u64 (.ofNat n),.int .i64 10]=>bif yP n 18446744073709551616 then some (.str (aw n)) else none
 | _=>none
def cN:List Nat->Nat->Option Nat
 | [],a=>some a
 | b::r,a=>bif yF 48 b&&yF b 57 then cN r (10*a+(b-48)) else none
def Iq:List AV->Option AV
 | [.str s]=>
  bif yP 0 s.length&&yF s.length 18 then
   match cN s 0 with | some n=>some (.ae [.int .i64 n,.undef]) | none=>none
  else none
 | _=>none
def nf:List AV->Option AV
 | [.int .u64 (.ofNat x),.int .u64 (.ofNat y),.int .u64 (.ofNat c)]=>
  bif yF c 1&&(yP x 18446744073709551616&&yP y 18446744073709551616) then some (.ae [.int .u64 ((x+y+c)%18446744073709551616:Nat),.int .u64 ((x+y+c)/18446744073709551616:Nat)]) else none
 | _=>none
def Ab:List AV->Option AV
 | [.int .u64 (.ofNat x),.int .u64 (.ofNat y),.int .u64 (.ofNat c)]=>
  bif yF c 1&&(yP x 18446744073709551616&&yP y 18446744073709551616) then some (.ae [.int .u64 ((x+18446744073709551616*2-y-c)%18446744073709551616:Nat),.int .u64 (bif yF (y+c) x then 0 else 1)]) else none
 | _=>none
def qH:List AV->Option AV
 | [.int .u64 (.ofNat x),.int .u64 (.ofNat y)]=>bif yP x 18446744073709551616&&yP y 18446744073709551616 then some (.ae [.int .u64 (x*y/18446744073709551616:Nat),.int .u64 (x*y%18446744073709551616:Nat)]) else none
 | _=>none
def et:Nat->Nat->Nat
 | 0,_=>0
 | f+1,n=>bif yx n 0 then 0 else 1+et f (n/2)
def HH:List AV->Option AV
 | [.int .u64 (.ofNat x)]=>bif yP x 18446744073709551616 then some (.int .i64 (et 64 x)) else none
 | _=>none
def Ed:List AV->Option AV
 | [.int .u64 (.ofNat x)]=>bif yP x 18446744073709551616 then some (.int .i64 (64-et 64 x:Nat)) else none
 | _=>none
def Qt:List AV->Option AV
 | [.bM .f64 b]=>some (.int .u64 b)
 | _=>none
def Py:List AV->Option AV
 | [.int .u64 (.ofNat n)]=>some (.bM .f64 n)
 | _=>none
end
section
open Go
section
variable {O:bl} {n:Nat}
def GW {w w':yh} (h:RowKit.Below w.heap.size w w'):Calm w w':=⟨h.os,h.tape,h.output,h.size,h.block⟩
def an5 {w:yh} (k:Nat):Calm w (w.drewN k):=⟨rfl,rfl,rfl,yo _,fun _ _=>rfl⟩
def an6 {w:yh} (h:Al O w) {a:Addr} {v:yf} (hc:O.w0.cell? a=some v):w.cell? a=some v:=by
 have hb:a.block<O.w0.heap.size:=by
  unfold World.cell? at hc
  cases hq:O.w0.heap[a.block]? with
  | none=>simp [hq] at hc
  | some o=>exact (xm.1 hq).1
 unfold World.cell? at hc ⊢;rw [h.1 _ hb];exact hc
def nV {aq:List AV} {r:AV} (hr:∀S w' lo u,ah O.af eI S w' r u->mI O.af S w' lo r u)
  (fu:∀args w,(callFunc (O.af n) args).run O.P w= .ok (.enter (O.af n) args) w)
  (h:∀w S args,Al O w->az O.af eI S w aq args.toList->xN O.P (O.af n) args w fun e w'=>∃u,e= .returned u/\Calm w w'/\∀S,ah O.af eI S w' r u):ef O n aq r:=by
 intro w S args hg hS dO _;refine .inl ⟨fu args w,Go.callsIn_wide.2 ((h w S args hg dO).mono ?_)⟩;rintro e w' ⟨u,rfl,hc,hu⟩;exact ⟨u,S,rfl,hc,fun _ h=>h,fun _ h=> .inl h,fun b hb=>yV (hS b hb) hc.size,hr S w' _ u (hu S)⟩
def K5 {aq:List AV} {r:AV} (hr:∀S w' lo u,ah O.af eI S w' r u->mI O.af S w' lo r u)
  (h:∀w S args,az O.af eI S w aq args.toList->∃u,(callFunc (O.af n) args).run O.P w= .ok (.value u) w/\∀S,ah O.af eI S w r u):ef O n aq r:=by
 intro w S args _ hS dO _;obtain ⟨u,h1,h2⟩:=h w S args dO;exact .inr ⟨u,w,h1,u,S,rfl,Calm.refl,fun _ h=>h,fun _ h=> .inl h,hS,hr S w _ u (h2 S)⟩
def Hw {s:List Nat}:∀S w' lo u,ah O.af eI S w' (.str s) u->mI O.af S w' lo (.str s) u:=fun S w' lo u h=>⟨[],rfl,h,rfl⟩
def QS {k:IntKind} {z:Int}:∀S w' lo u,ah O.af eI S w' (.int k z) u->mI O.af S w' lo (.int k z) u:=fun S w' lo u h=>⟨[],rfl,h,rfl⟩
def arN {k:FloatKind} {z:Nat}:∀S w' lo u,ah O.af eI S w' (.bM k z) u->mI O.af S w' lo (.bM k z) u:=fun S w' lo u h=>⟨[],rfl,h,rfl⟩
def apW {b:Bool}:∀S w' lo u,ah O.af eI S w' (.bool b) u->mI O.af S w' lo (.bool b) u:=fun S w' lo u h=>⟨[],rfl,h,rfl⟩
def aav {S:Nat->Prop} {w':yh} {lo:Nat}:∀{vs:List AV} {us:List yf},(∀v,v∈vs->(∀ex sz k cs,v≠.bt ex sz k cs)/\aZ v=true)->az O.af eI S w' vs us->jW O.af S w' lo vs us []
 | [],us,_,h=>by simp only [az] at h;exact ⟨h,rfl⟩
 | v::vs,us,hv,h=>by
  simp only [az] at h;obtain ⟨u,t,rfl,h1,h2⟩:=h;have h3:=hv v (by simp);refine ⟨u,t,[],[],rfl,rfl,?_,aav (fun v hm=>hv v (by simp [hm])) h2⟩;cases v<;>first | exact ⟨rfl,h1,h3.2⟩ | exact absurd rfl (h3.1 _ _ _ _)
def DF {vs:List AV} (hv:∀v,v∈vs->(∀ex sz k cs,v≠.bt ex sz k cs)/\aZ v=true):∀S w' lo u,ah O.af eI S w' (.ae vs) u->mI O.af S w' lo (.ae vs) u:=by
 intro S w' lo u h;obtain ⟨xs,rfl,h⟩:=h;exact ⟨xs,[],rfl,aav hv h,by simp⟩
def Ee {S:Nat->Prop} {w:yh} {a:AV} {args:Array yf} (h:az O.af eI S w [a] args.toList):∃u,args=#[u]/\ah O.af eI S w a u:=by
 simp only [az] at h
 grind
def Ap {S:Nat->Prop} {w:yh} {a b:AV} {args:Array yf} (h:az O.af eI S w [a,b] args.toList):∃u v,args=#[u,v]/\ah O.af eI S w a u/\ah O.af eI S w b v:=by
 simp only [az] at h
 grind
def ahe {S:Nat->Prop} {w:yh} {a b c:AV} {args:Array yf} (h:az O.af eI S w [a,b,c] args.toList):∃u v x,args=#[u,v,x]/\ah O.af eI S w a u/\ah O.af eI S w b v/\ah O.af eI S w c x:=by
 simp only [az] at h
 grind
def GX {S:Nat->Prop} {w:yh} {s:List Nat} {l:List UInt8} (h:l.map y9=s):ah O.af eI S w (.str s) (.string ⟨l.toArray⟩):=by
 simp only [ah];exact ⟨_,rfl,h⟩
def toNat_inj {a b:UInt8}:yx a.toNat b.toNat=(a==b):=by
 by_cases h:a=b
 ·simp_all
 ·have h':a.toNat≠b.toNat:=fun e=>h (UInt8.toNat_inj.1 e)
  have e:(a==b)=false:=by simp_all
  rw [e]
  cases hq:yx a.toNat b.toNat with
  | false=>rfl
  | true=>exact absurd (ym hq) h'
def G6:∀(p s:List UInt8),fP (p.map y9) (s.map y9)=p.isPrefixOf s
 | [],s=>by cases s<;>rfl
 | a::p,[]=>rfl
 | a::p,b::s=>by
  simp only [xe,fP,List.isPrefixOf,G6 p s,toNat_inj]
def aaw:∀(s sep:List UInt8) (k:Nat),lJ (sep.map y9) (s.map y9) k=if 0<=Lib.index s sep then some (k+(Lib.index s sep).toNat) else none
 | [],sep,k=>by
  simp only [List.map_nil,lJ,Lib.index]
  cases sep with
  | nil=>simp [fP]
  | cons a r=>simp [fP]
 | b::s,sep,k=>by
  have ih:=aaw s sep (k+1);have hp:=G6 sep (b::s);simp only [xe,lJ,hp,Lib.index]
  grind
def abZ (b:UInt8):∀cs:List UInt8,En b.toNat (cs.map y9)=cs.contains b
 | []=>rfl
 | c::cs=>by
  simp only [xe,En,abZ b cs,List.contains_cons,toNat_inj]
  grind
def P8 (cs:List UInt8):∀l:List UInt8,jR (cs.map y9) (l.map y9)=(l.dropWhile (cs.contains ·)).map y9
 | []=>rfl
 | b::l=>by
  simp only [xe,jR,abZ,List.dropWhile_cons,P8 cs l]
  grind
def ab0 (l:List UInt8):∀n,gm (l.map y9) n=(Lib.repeatL l n).map y9
 | 0=>rfl
 | n+1=>by simp only [gm,Lib.repeatL,xy,ab0 l n]
def Z5:∀(f n:Nat) (acc:List Nat),n<f->mu f n acc=(Lib.decDigits n).map y9++acc
 | 0,n,acc,h=>by omega
 | f+1,n,acc,h=>by
  rw [mu,Lib.decDigits];by_cases hn:n<10
  ·rw [show yP n 10=true from yt hn,yB,dif_pos hn]
   have:(ybe (48+n)).toNat=48+n:=by
    rw [tW];omega
   grind
  ·have hb:yP n 10=false:=by
    cases hq:yP n 10 with
    | false=>rfl
    | true=>exact absurd (yA hq) (by omega)
   rw [hb,yS,dif_neg hn,Z5 f (n/10) _ (by omega),xy,List.append_assoc]
   have:(ybe (48+n%10)).toNat=48+n%10:=by
    rw [tW];omega
   grind
def Qu (n:Nat):aw n=(Lib.decDigits n).map y9:=by
 rw [aw,Z5 (n+1) n [] (by omega),List.append_nil]
def apX (n:Int):aU n=(Lib.itoa n).map y9:=by
 cases n with
 | ofNat k=>
  have:¬yaC k<0:=by simp
  simp only [aU,Lib.itoa,this,xd,Qu];rfl
 | negSucc k=>
  have:Int.negSucc k<0:=Int.negSucc_lt_zero k
  simp only [aU,Lib.itoa,this,xA,Qu,xe];rfl
def Qv:∀f x:Nat,et f x=Lib.bitLenAux f x
 | 0,_=>rfl
 | f+1,x=>by
  rw [et,Lib.bitLenAux];by_cases h:x=0
  ·simp_all
  ·have hb:yx x 0=false:=by
    cases hq:yx x 0 with
    | false=>rfl
    | true=>exact absurd (ym hq) h
   rw [hb,yS,yr h,Qv f]
def aax:∀{cs:List UInt8},DN (cs.map y9)=true->∀(j:Nat) b,cs[j]? =some b->b.toNat<128
 | [],_,j,b,h=>by simp at h
 | c::cs,h,j,b,hb=>by
  simp only [xe,DN,ye] at h
  cases j with
  | zero=>
   simp_all
  | succ j=>exact aax h.2 j b (by simpa using hb)
def og {a b:Nat} (h:yP a b=true):a<b:=by simp_all
def ab1:∀{l:List UInt8} {a z:Nat},cN (l.map y9) a=some z->Lib.decFrom a l=some z
 | [],a,z,h=>h
 | b::l,a,z,h=>by
  simp only [xe,cN] at h
  cases hb:(yF 48 b.toNat&&yF b.toNat 57) with
  | false=>rw [hb] at h;cases h
  | true=>
   rw [hb] at h;simp only [ye] at hb;have h1:=yA hb.1;have h2:=yA hb.2
   have:=ab1 h
   rw [Lib.decFrom,Lib.digitVal,yE ⟨h1,h2⟩]
   grind
def apY {l:List UInt8} {z:Nat} (h:cN (l.map y9) 0=some z) (h0:0<l.length):Lib.atoi l=some (z:Int):=by
 cases l with
 | nil=>simp at h0
 | cons b r=>
  have hd:=ab1 h;have hb:48<=b.toNat:=by
   simp only [xe,cN] at h
   cases hb:(yF 48 b.toNat&&yF b.toNat 57) with
   | false=>rw [hb] at h;cases h
   | true=>
    simp_all
  have h1:(b==45)=false:=by
   have:b≠45:=fun e=>by subst e;exact absurd hb (by decide)
   grind
  have h2:(b==43)=false:=by
   have:b≠43:=fun e=>by subst e;exact absurd hb (by decide)
   grind
  simp only [Lib.atoi,h1,h2,yJ,xd,Lib.decNat,List.isEmpty_cons,hd,Option.map_some]
section
variable {f:tI}
def al7 (hf:O.af n=f) (fu:∀args w,(callFunc f args).run O.P w= .ok (.enter f args) w)
  (hc:∀(s p:ByteArray) (w:yh),xN O.P f #[.string s,.string p] w fun e w'=>e= .returned (.tuple #[.string ⟨(Lib.trimPrefix s.data.toList p.data.toList).toArray⟩,.bool (Lib.hasPrefix s.data.toList p.data.toList)])/\w'=w):
  ∀aq r,KT aq=some r->ef O n aq r:=by
 intro aq r h;unfold KT at h
 split at h
 ·rename_i s p;simp only [yd] at h;subst h;refine nV ?_ (by rw [hf];exact fu) ?_
  ·cases fP p s<;>exact DF (by simp [aZ])
  ·intro w S args hg dO;obtain ⟨u,v,rfl,h1,h2⟩:=Ap dO;obtain ⟨t1,rfl,rfl⟩:=h1;obtain ⟨t2,rfl,rfl⟩:=h2;rw [hf];refine (hc t1 t2 w).mono ?_;rintro e w' ⟨rfl,rfl⟩;refine ⟨_,rfl,Calm.refl,fun S=>?_⟩;rw [G6,yk];unfold Lib.trimPrefix Lib.hasPrefix
   cases hp:t2.data.toList.isPrefixOf t1.data.toList with
   | true=>
    simp only [yB,xA,ah,az]
    simp_all
   | false=>
    simp only [yS,yJ,xd,ah,az]
    grind
 ·cases h
def al8 (hf:O.af n=f) (fu:∀args w,(callFunc f args).run O.P w= .ok (.enter f args) w)
  (hc:∀(s p:ByteArray) (w:yh),xN O.P f #[.string s,.string p] w fun e w'=>e= .returned (.bool (Lib.hasPrefix s.data.toList p.data.toList))/\w'=w):
  ∀aq r,KU aq=some r->ef O n aq r:=by
 intro aq r h;unfold KU at h
 split at h
 ·rename_i s p;simp only [yd] at h;subst h;refine nV apW (by rw [hf];exact fu) ?_
  intro w S args hg dO;obtain ⟨u,v,rfl,h1,h2⟩:=Ap dO;obtain ⟨t1,rfl,rfl⟩:=h1;obtain ⟨t2,rfl,rfl⟩:=h2;rw [hf];refine (hc t1 t2 w).mono ?_;rintro e w' ⟨rfl,rfl⟩;refine ⟨_,rfl,Calm.refl,fun S=>?_⟩;rw [G6];simp only [ah,Lib.hasPrefix]
 ·cases h
def al3 (hf:O.af n=f) (fu:∀args w,(callFunc f args).run O.P w= .ok (.enter f args) w)
  (hc:∀(s p:ByteArray) (w:yh),xN O.P f #[.string s,.string p] w fun e w'=>e= .returned (.string ⟨(Lib.trimPrefix s.data.toList p.data.toList).toArray⟩)/\w'=w):
  ∀aq r,KJ aq=some r->ef O n aq r:=by
 intro aq r h;unfold KJ at h
 split at h
 ·rename_i s p;simp only [yd] at h;subst h;refine nV Hw (by rw [hf];exact fu) ?_
  intro w S args hg dO;obtain ⟨u,v,rfl,h1,h2⟩:=Ap dO;obtain ⟨t1,rfl,rfl⟩:=h1;obtain ⟨t2,rfl,rfl⟩:=h2;rw [hf];refine (hc t1 t2 w).mono ?_;rintro e w' ⟨rfl,rfl⟩;refine ⟨_,rfl,Calm.refl,fun S=>?_⟩;rw [G6,yk];refine GX ?_;unfold Lib.trimPrefix Lib.hasPrefix
  cases hp:t2.data.toList.isPrefixOf t1.data.toList with
  | true=>simp [List.map_drop]
  | false=>simp
 ·cases h
def arO (hf:O.af n=f) (fu:∀args w,(callFunc f args).run O.P w= .ok (.enter f args) w) {a:Addr} {m:Int} (hm:O.w0.cell? a=some (.int .i64 m))
  (hc:∀(s sep:ByteArray) (w:yh),s.size<4294967281->w.cell? a=some (.int .i64 m)->xN O.P f #[.string s,.string sep] w fun e w'=>e= .returned (.tuple #[.string ⟨(Lib.cut s.data.toList sep.data.toList).1.toArray⟩,.string ⟨(Lib.cut s.data.toList sep.data.toList).2.1.toArray⟩,.bool (Lib.cut s.data.toList sep.data.toList).2.2])/\∃n,w'=w.drewN n):
  ∀aq r,MM aq=some r->ef O n aq r:=by
 intro aq r h;unfold MM at h
 split at h
 ·rename_i s sep
  cases hb:yP s.length 4294967281 with
  | false=>rw [hb] at h;cases h
  | true=>
   rw [hb] at h;have key:∀(q:List UInt8×List UInt8×Bool),(∀t1 t2:ByteArray,t1.data.toList.map y9=s->t2.data.toList.map y9=sep->r= .ae [.str ((Lib.cut t1.data.toList t2.data.toList).1.map y9),.str ((Lib.cut t1.data.toList t2.data.toList).2.1.map y9),.bool (Lib.cut t1.data.toList t2.data.toList).2.2])->
     (∃a b c,r= .ae [.str a,.str b,.bool c])->ef O n [.str s,.str sep] r:=by
    intro q hq auh;obtain ⟨a',b',c',rfl⟩:=auh;refine nV (DF (by simp [aZ])) (by rw [hf];exact fu) ?_
    intro w S args hg dO;obtain ⟨u,v,rfl,h1,h2⟩:=Ap dO;obtain ⟨t1,rfl,e1⟩:=h1;obtain ⟨t2,rfl,e2⟩:=h2;rw [hf];have hl:t1.size<4294967281:=by
     have:=og hb
     rw [<-e1,yk] at this
     simp_all
    refine (hc t1 t2 w hl (an6 hg hm)).mono ?_;rintro e w' ⟨rfl,k,rfl⟩;refine ⟨_,rfl,an5 k,fun S=>?_⟩;simp only [ah,az]
    grind
   refine key ([],[],false) ?_ ?_
   ·intro t1 t2 e1 e2;subst e1;subst e2;rw [aaw] at h;unfold Lib.cut;by_cases h0:0<=Lib.index t1.data.toList t2.data.toList
    ·simp_all
    ·grind
   ·grind
 ·cases h
def apZ (hf:O.af n=f) (fu:∀args w,(callFunc f args).run O.P w= .ok (.enter f args) w)
  (hc:∀(s cs:ByteArray) (w:yh),s.size<=9223372036854775807->cs.size<4294967281->(∀(j:Nat) b,cs.data.toList[j]? =some b->b.toNat<128)->xN O.P f #[.string s,.string cs] w fun e w'=>e= .returned (.string ⟨(Lib.trimS s.data.toList cs.data.toList).toArray⟩)/\RowKit.Below w.heap.size w w'):
  ∀aq r,trimS aq=some r->ef O n aq r:=by
 intro aq r h;unfold trimS at h
 split at h
 ·rename_i s cs
  cases hb:(DN cs&&(yP s.length 4294967281&&yP cs.length 4294967281)) with
  | false=>rw [hb] at h;cases h
  | true=>
   rw [hb] at h;simp only [yB,yd] at h;subst h;simp only [ye] at hb;refine nV Hw (by rw [hf];exact fu) ?_
   intro w S args hg dO;obtain ⟨u,v,rfl,h1,h2⟩:=Ap dO;obtain ⟨t1,rfl,rfl⟩:=h1;obtain ⟨t2,rfl,rfl⟩:=h2;have mO:=og hb.2.1;have nE:=og hb.2.2;rw [yk] at mO nE;rw [hf];refine (hc t1 t2 w (by rw [Lib.size_eq];omega) (by rw [Lib.size_eq];omega) (aax hb.1)).mono ?_;rintro e w' ⟨rfl,hw⟩;refine ⟨_,rfl,GW hw,fun S=>GX ?_⟩;simp only [Lib.trimS,Lib.trimLeftS,Lib.trimRightS];rw [<-tx,P8,<-tx,P8]
 ·cases h
def am7 (hf:O.af n=f) (fu:∀args w,(callFunc f args).run O.P w= .ok (.enter f args) w)
  (hc:∀(s:ByteArray) (c:Nat) (w:yh),c<=9223372036854775807->s.size*c<=140737488355328->xN O.P f #[.string s,.int .i64 c] w fun e w'=>e= .returned (.string ⟨(Lib.repeatL s.data.toList c).toArray⟩)/\RowKit.Below w.heap.size w w'):
  ∀aq r,zZ aq=some r->ef O n aq r:=by
 intro aq r h;unfold zZ at h
 split at h
 ·rename_i s c
  cases hb:(yF c 1099511627776&&yF (s.length*c) 1099511627776) with
  | false=>rw [hb] at h;cases h
  | true=>
   rw [hb] at h;simp only [yB,yd] at h;subst h;simp only [ye] at hb;have l1:=yA hb.1;have l2:=yA hb.2;refine nV Hw (by rw [hf];exact fu) ?_
   intro w S args hg dO;obtain ⟨u,v,rfl,h1,h2⟩:=Ap dO;obtain ⟨t1,rfl,rfl⟩:=h1;subst h2;rw [hf];rw [yk] at l2;refine (hc t1 c w (by omega) (by rw [Lib.size_eq];omega)).mono ?_;rintro e w' ⟨rfl,hw⟩;exact ⟨_,rfl,GW hw,fun S=>GX (ab0 _ _).symm⟩
 ·cases h
def ap0 (hf:O.af n=f) (fu:∀args w,(callFunc f args).run O.P w= .ok (.enter f args) w)
  (hc:∀(z:Int) (w:yh),-9223372036854775808<=z->z<=9223372036854775807->Al O w->xN O.P f #[.int .i64 z] w fun e w'=>e= .returned (.string ⟨(Lib.itoa z).toArray⟩)/\Calm w w'):
  ∀aq r,Ip aq=some r->ef O n aq r:=by
 intro aq r h;unfold Ip at h
 split at h
 ·rename_i z
  cases hb:Ao z with
  | false=>rw [hb] at h;cases h
  | true=>
   rw [hb] at h;simp only [yB,yd] at h;subst h;have hz: -9223372036854775808<=z/\z<=9223372036854775807:=by
    cases z with
    | ofNat k=>have:=og hb;show -9223372036854775808<=(k:Int)/\(k:Int)<=9223372036854775807;omega
    | negSucc k=>have:=og hb;omega
   refine nV Hw (by rw [hf];exact fu) ?_
   intro w S args hg dO;obtain ⟨u,rfl,h1⟩:=Ee dO;subst h1;rw [hf];refine (hc z w hz.1 hz.2 hg).mono ?_;rintro e w' ⟨rfl,hw⟩;exact ⟨_,rfl,hw,fun S=>GX (apX z).symm⟩
 ·cases h
def al4 (hf:O.af n=f) (fu:∀args w,(callFunc f args).run O.P w= .ok (.enter f args) w)
  (hc:∀(z:Nat) (w:yh),z<18446744073709551616->Al O w->xN O.P f #[.int .u64 z,.int .i64 10] w fun e w'=>e= .returned (.string ⟨(Lib.decDigits z).toArray⟩)/\Calm w w'):
  ∀aq r,zK aq=some r->ef O n aq r:=by
 intro aq r h;unfold zK at h
 split at h
 ·rename_i z
  cases hb:yP z 18446744073709551616 with
  | false=>rw [hb] at h;cases h
  | true=>
   rw [hb] at h;simp only [yB,yd] at h;subst h;refine nV Hw (by rw [hf];exact fu) ?_
   intro w S args hg dO;obtain ⟨u,v,rfl,h1,h2⟩:=Ap dO;subst h1;subst h2;rw [hf];refine (hc z w (og hb) hg).mono ?_;rintro e w' ⟨rfl,hw⟩;exact ⟨_,rfl,hw,fun S=>GX (Qu z).symm⟩
 ·cases h
def ap1 (hf:O.af n=f) (fu:∀args w,(callFunc f args).run O.P w= .ok (.enter f args) w)
  (hc:∀(s:ByteArray) (z:Int) (w:yh),s.size<=18->Lib.atoi s.data.toList=some z->xN O.P f #[.string s] w fun e w'=>e= .returned (.tuple #[.int .i64 z,.nilIface])/\Calm w w'):
  ∀aq r,Iq aq=some r->ef O n aq r:=by
 intro aq r h;unfold Iq at h
 split at h
 ·rename_i s
  cases hb:(yP 0 s.length&&yF s.length 18) with
  | false=>rw [hb] at h;cases h
  | true=>
   rw [hb] at h;simp only [yB] at h;simp only [ye] at hb;have l1:=og hb.1;have l2:=yA hb.2
   split at h
   ·rename_i z hz;simp only [yd] at h;subst h;refine nV (DF (by simp [aZ])) (by rw [hf];exact fu) ?_
    intro w S args hg dO;obtain ⟨u,rfl,h1⟩:=Ee dO;obtain ⟨t1,rfl,rfl⟩:=h1;rw [yk] at l1 l2;have ha:Lib.atoi t1.data.toList=some (z:Int):=apY hz l1;rw [hf];refine (hc t1 z w (by rw [Lib.size_eq];exact l2) ha).mono ?_
    simp only [ah,az]
    grind
   ·cases h
 ·cases h
def an7 (hf:O.af n=f) (fu:∀args w,(callFunc f args).run O.P w= .ok (.enter f args) w)
  (hc:∀(x y:Nat) (w:yh),x<18446744073709551616->y<18446744073709551616->xN O.P f #[.int .u64 x,.int .u64 y] w fun e w'=>e= .returned (.tuple #[.int .u64 ((x*y/18446744073709551616:Nat):Int),.int .u64 ((x*y%18446744073709551616:Nat):Int)])/\w'=w):
  ∀aq r,qH aq=some r->ef O n aq r:=by
 intro aq r h;unfold qH at h
 split at h
 ·rename_i x y
  cases hb:(yP x 18446744073709551616&&yP y 18446744073709551616) with
  | false=>rw [hb] at h;cases h
  | true=>
   rw [hb] at h;simp only [yB,yd] at h;subst h;simp only [ye] at hb;refine nV (DF (by simp [aZ])) (by rw [hf];exact fu) ?_
   intro w S args hg dO;obtain ⟨u,v,rfl,h1,h2⟩:=Ap dO;subst h1;subst h2;rw [hf];refine (hc x y w (og hb.1) (og hb.2)).mono ?_;rintro e w' ⟨rfl,rfl⟩;refine ⟨_,rfl,Calm.refl,fun S=>?_⟩;simp only [ah,az]
   grind
 ·cases h
def an8 (hf:O.af n=f) (fu:∀args w,(callFunc f args).run O.P w= .ok (.enter f args) w)
  (hc:∀(x:Int) (w:yh),0<=x->x<=18446744073709551615->xN O.P f #[.int .u64 x] w fun e w'=>e= .returned (.int .i64 (Lib.bitLen x.toNat:Nat))/\w'=w):
  ∀aq r,HH aq=some r->ef O n aq r:=by
 intro aq r h;unfold HH at h
 split at h
 ·rename_i x
  cases hb:yP x 18446744073709551616 with
  | false=>rw [hb] at h;cases h
  | true=>
   rw [hb] at h;simp only [yB,yd] at h;subst h
   have:=og hb
   refine nV QS (by rw [hf];exact fu) ?_
   intro w S args hg dO;obtain ⟨u,rfl,h1⟩:=Ee dO;subst h1;rw [hf];refine (hc (yaC x) w (tn x) (by show (x:Int)<=_;omega)).mono ?_;rintro e w' ⟨rfl,rfl⟩;refine ⟨_,rfl,Calm.refl,fun S=>?_⟩;rw [Qv];rfl
 ·cases h
def ap2 (hf:O.af n=f) (fu:∀args w,(callFunc f args).run O.P w= .ok (.enter f args) w)
  (hc:∀(x:Int) (w:yh),0<=x->x<=18446744073709551615->xN O.P f #[.int .u64 x] w fun e w'=>e= .returned (.int .i64 (64-(Lib.bitLen x.toNat:Nat)))/\w'=w):
  ∀aq r,Ed aq=some r->ef O n aq r:=by
 intro aq r h;unfold Ed at h
 split at h
 ·rename_i x
  cases hb:yP x 18446744073709551616 with
  | false=>rw [hb] at h;cases h
  | true=>
   rw [hb] at h;simp only [yB,yd] at h;subst h
   have:=og hb
   have hle:∀f x,Lib.bitLenAux f x<=f:=by
    intro f
    induction f with
    | zero=>intro x;exact yo _
    | succ f ih=>
     intro x;rw [Lib.bitLenAux]
     grind
   refine nV QS (by rw [hf];exact fu) ?_
   intro w S args hg dO;obtain ⟨u,rfl,h1⟩:=Ee dO;subst h1;rw [hf];refine (hc (yaC x) w (tn x) (by show (x:Int)<=_;omega)).mono ?_;rintro e w' ⟨rfl,rfl⟩;refine ⟨_,rfl,Calm.refl,fun S=>?_⟩;simp only [ah,Qv];show Value.int .i64 (64-(Lib.bitLenAux 64 x:Int))=Value.int .i64 ((64-Lib.bitLenAux 64 x:Nat):Int)
   grind
 ·cases h
def amu (hf:O.af n=f) (hc:∀(b:Nat) (w:yh),(callFunc f #[.float .f64 b]).run O.P w= .ok (.value (.int .u64 b)) w):
  ∀aq r,Qt aq=some r->ef O n aq r:=by
 intro aq r h;unfold Qt at h
 split at h
 ·rename_i b;simp only [yd] at h;subst h;refine K5 QS ?_;intro w S args dO;obtain ⟨u,rfl,h1⟩:=Ee dO;simp only [ah] at h1;subst h1;rw [hf];exact ⟨_,hc b w,fun S=>rfl⟩
 ·cases h
def al0 (hf:O.af n=f) (hc:∀(b:Nat) (w:yh),(callFunc f #[.int .u64 b]).run O.P w= .ok (.value (.float .f64 b)) w):
  ∀aq r,Py aq=some r->ef O n aq r:=by
 intro aq r h;unfold Py at h
 split at h
 ·rename_i b;simp only [yd] at h;subst h;refine K5 arN ?_;intro w S args dO;obtain ⟨u,rfl,h1⟩:=Ee dO;simp only [ah] at h1;subst h1;rw [hf];exact ⟨_,hc b w,fun S=>rfl⟩
 ·cases h
def an9 (hf:O.af n=f)
  (hc:∀(x y c:Nat) (w:yh),c<=1->(callFunc f #[.int .u64 x,.int .u64 y,.int .u64 c]).run O.P w= .ok (.value (.tuple #[.int .u64 (((x+y+c)%18446744073709551616:Nat):Int),.int .u64 (((x+y+c)/18446744073709551616:Nat):Int)])) w):
  ∀aq r,nf aq=some r->ef O n aq r:=by
 intro aq r h;unfold nf at h
 split at h
 ·rename_i x y c
  cases hb:(yF c 1&&(yP x 18446744073709551616&&yP y 18446744073709551616)) with
  | false=>rw [hb] at h;cases h
  | true=>
   rw [hb] at h;simp only [yB,yd] at h;subst h;simp only [ye] at hb;refine K5 (DF (by simp [aZ])) ?_;intro w S args dO;obtain ⟨u,v,z,rfl,h1,h2,h3⟩:=ahe dO;subst h1;subst h2;subst h3;rw [hf];refine ⟨_,hc x y c w (yA hb.1),fun S=>?_⟩;simp only [ah,az]
   grind
 ·cases h
def aoa (hf:O.af n=f)
  (hc:∀(x y b:Nat) (w:yh),b<=1->(callFunc f #[.int .u64 x,.int .u64 y,.int .u64 b]).run O.P w= .ok (.value (.tuple #[.int .u64 (((x+18446744073709551616-y-b)%18446744073709551616:Nat):Int),.int .u64 ((if x<y+b then 1 else 0:Nat):Int)])) w):
  ∀aq r,Ab aq=some r->ef O n aq r:=by
 intro aq r h;unfold Ab at h
 split at h
 ·rename_i x y c
  cases hb:(yF c 1&&(yP x 18446744073709551616&&yP y 18446744073709551616)) with
  | false=>rw [hb] at h;cases h
  | true=>
   rw [hb] at h;simp only [yB,yd] at h;subst h;simp only [ye] at hb;have dW:=yA hb.1;have hy:=og hb.2.2;refine K5 (DF (by simp [aZ])) ?_;intro w S args dO;obtain ⟨u,v,z,rfl,h1,h2,h3⟩:=ahe dO;subst h1;subst h2;subst h3;rw [hf];refine ⟨_,hc x y c w dW,fun S=>?_⟩;simp only [ah,az];refine ⟨_,rfl,_,_,rfl,?_,_,_,rfl,?_,rfl⟩
   ·grind
   ·congr 1
    by_cases h:x<y+c
    ·have:yF (y+c) x=false:=by
      cases hq:yF (y+c) x with
      | false=>rfl
      | true=>have:=yA hq;omega
     grind
    ·rw [yt (by omega),yr h];rfl
 ·cases h
end
end
end
end VE
