import Derived.Laws.CopyOwn
import Derived.Test.YtjemkccfpkgopaaGreatDoorUab
set_option linter.all false
set_option maxRecDepth 100000
open Array renaming getElem?_eq_some_iff→xm,length_toList→vN
open Bool renaming and_eq_true→ye,false_eq_true→yJ
open Go renaming Ending→yaJ,Loop→uB,MapEntry→uC,Next→yaB,Obj→ybd,Oper→y5,Operand→xo,Program→y8,TypeDesc→vj,TypeId→yD,TypeInfo→ybV,Value→yf,World→yh,sizeOf→vJ
open List renaming append_assoc→xu,cons_append→xh,eq_nil_of_length_eq_zero→yC,ext_getElem?→yai,getElem?_append_left→xU,getElem?_append_right→xF,getElem?_drop→yac,getElem?_take_of_lt→ub,getElem?_toArray→tJ,length_append→yL,length_drop→xT,length_take→yI,map_cons→xe,mem_append→wJ,size_toArray→uL,take_of_length_le→yN
open Nat renaming add_mul→wI,add_zero→yZ,beq→yx,beq_refl→vd,ble→yF,blt→yP,eq_of_beq_eq_true→ym,eq_zero_or_pos→xn,le_of_ble_eq_true→yA,le_refl→yo,lt_of_lt_of_le→yV,min_le_left→yaI,mul_le_mul_right→yT,zero_add→yg
open Option renaming isSome_none→tP
open Option.some renaming injEq→yd
open Prod.mk renaming injEq→yj
open UInt8 renaming toNat→y9
namespace VE
section
open Go
section
variable {O:bl} {H:Hint} {m:Mp} {S:Nat->Prop} {w:yh} {tm:Env} {a:Act} {hp:Hp} {ct:Nat}
structure One (w w':yh) (g:Nat):Prop where
 os:w'.os=w.os
 tape:w'.tape=w.tape
 output:w'.output=w.output
 size:w'.heap.size=w.heap.size
 other:∀b,b≠g->w'.heap[b]? =w.heap[b]?
def PK (w:yh) (g:Nat) (cs:Array yf):One w (w.setRow g cs) g:=
 ⟨rfl,rfl,rfl,by simp,fun b hb=>setRow_other w g b cs hb⟩
def HF {id:Nat} {o:Obj} {p:Pl} (h:aB hp id=some o) (hm:m id=some p):dR m hp p.b:=⟨id,o,p,h,hm,rfl⟩
def apB {id:Nat} {o':Obj} {b:Nat} (h:dR m (bc hp id o') b):dR m hp b:=by
 obtain ⟨i,o,p,h1,h2,h3⟩:=h;rw [qg] at h1;by_cases hi:id=i
 ·subst hi
  cases hq:aB hp id with
  | none=>simp [hq] at h1
  | some q=>exact ⟨id,q,p,hq,h2,h3⟩
 ·simp only [hi,xd] at h1;exact ⟨i,o,p,h1,h2,h3⟩
def Hc (hh:aT O m S w hp ct) {id:Nat} {o o':Obj} {p:Pl} {w':yh} (ho:aB hp id=some o) (hm:m id=some p) (hn:¬S p.b) (hw:One w w' p.b) (h':fh O m S w' id o') (hk:∀r:uB,w.heap[p.b]? =some (.loop r)->∃r':uB,w'.heap[p.b]? =some (.loop r')):
  aT O m S w' (bc hp id o') ct/\b8 m S w hp m S w' (bc hp id o') ct:=by
 have aP:fA S w w':=fun b hb=>hw.other b (fun e=>hn (e▸hb))
 refine ⟨⟨?_,hh.lt,?_,?_,?_,hh.low,?_,?_,fun i q hq=>(by
  rw [qg] at hq;by_cases hc:id=i
  ·subst hc;exact hh.aW _ _ ho
  ·simp only [hc,xd] at hq;exact hh.aW _ _ hq)⟩,⟨hw.os,hw.tape,hw.output,by rw [hw.size];exact yo _,?_,fun _ h=>h,fun b hb=>aP b hb,fun b hb=> .inl hb,fun b hb=> .inl (apB hb),fun _ _ _ h=>h,fun b r hb=>?_⟩⟩
 rotate_right
 ·by_cases hc:b=p.b
  ·subst hc;exact hk r hb
  ·exact ⟨r,(hw.other b hc).trans hb⟩
 ·intro i q pi hi bJ;rw [qg] at hi;by_cases hc:id=i
  ·subst hc;simp only [xA,ho,Option.isSome_some] at hi;injection hi with hi
   subst hi;exact h'
  ·simp only [hc,xd] at hi;refine qd (fun _ _ h=>h) (fun _ h=>h) aP (fun q' bK=>?_) (fun _ _ h=>h) (hh.obj i q pi hi bJ);exact hw.other _ (fun e=>hc (hh.inj i id q o q' p hi ho bK hm e).symm)
 ·intro i j oi oj pi pj hi hj bJ fK e;have key:∀{i:Nat} {oi:Obj},aB (bc hp id o') i=some oi->∃JK,aB hp i=some JK:=by
   intro i oi hi;rw [qg] at hi;by_cases hc:id=i
   ·subst hc;exact ⟨o,ho⟩
   ·simp only [hc,xd] at hi;exact ⟨oi,hi⟩
  obtain ⟨JK,cS⟩:=key hi;obtain ⟨JJ,X6⟩:=key hj;exact hh.inj i j JK JJ pi pj cS X6 bJ fK e
 ·intro b hb;rw [hw.size];exact hh.slt b hb
 ·intro i q hq;rw [hw.size];exact hh.blt i q hq
 ·intro b hb
  rw [hw.other b (fun e=>by have:=hh.low id p hm;omega)];exact hh.kP b hb
 ·rw [hw.size];exact hh.fB
 ·intro b _ hb;exact hw.other b (fun e=>hb (e▸HF ho hm))
def sF (O:bl) (m:Mp) (S:Nat->Prop) (w:yh) (a:Act) (hp:Hp) (ct:Nat) (o:y5) (v:AV) (ap:Hp) (aY:Nat):Prop:=
 ∃n u w' m' S',(execOp a.eval o).run O.P w= .ok n w'/\(n= .value u\/(n= .skip/\u=undef))/\aT O m' S' w' ap aY/\ah O.af m' S' w' v u/\du m m'/\b8 m S w hp m' S' w' ap ct
def apC {af:Nat->Nat} {v:AV} {u:yf} (h:ah af m S w v u) (ho:dc v=true):u.oneCell'=true:=by
 cases v with
 | fn f a b=>
  cases f with
  | f g=>simp only [ah] at h;obtain ⟨_,_,rfl,_⟩:=h;rfl
  | y l=>simp only [ah] at h;obtain ⟨_,_,rfl⟩:=h;rfl
 | int k n=>simp only [ah] at h;subst h;rfl
 | bool b=>simp only [ah] at h;subst h;rfl
 | bM k n=>simp only [ah] at h;subst h;rfl
 | str s=>simp only [ah] at h;obtain ⟨_,rfl,_⟩:=h;rfl
 | jU=>simp only [ah] at h;subst h;rfl
 | ptr i k=>simp only [ah] at h;obtain ⟨_,_,rfl⟩:=h;rfl
 | bZ cs=>simp only [ah] at h;obtain ⟨_,_,rfl,_⟩:=h;rfl
 | aa=>simp only [ah] at h;subst h;rfl
 | ai e n cs=>simp only [ah] at h;rcases h with ⟨_,_,_,rfl,_⟩ | ⟨_,rfl,_,_⟩<;>rfl
 | bt _ _ _ _=>simp [dc] at ho
 | aC i k n=>simp only [ah] at h;obtain ⟨_,_,_,rfl,_⟩:=h;rfl
 | iy=>simp only [ah] at h;subst h;rfl
 | jy=>simp only [ah] at h;subst h;rfl
 | map i=>simp only [ah] at h;obtain ⟨_,_,rfl⟩:=h;rfl
 | iV ks vs=>simp only [ah] at h;obtain ⟨_,_,_,rfl,_⟩:=h;rfl
 | it i=>simp only [ah] at h;obtain ⟨_,_,rfl⟩:=h;rfl
 | agg cs=>simp [dc] at ho
 | ae cs=>simp [dc] at ho
 | undef=>simp [dc] at ho
def K0 {af:Nat->Nat}:∀{vs:List AV} {us:List yf},az af m S w vs us->cm vs=true->∀u∈us,u.oneCell'=true
 | [],us,h,_,u,hu=>by simp only [az] at h;subst h;cases hu
 | v::r,us,h,ho,u,hu=>by
  obtain ⟨u',t,rfl,h1,h2⟩:=h;simp only [cm,ye] at ho;rcases List.mem_cons.1 hu with rfl | hu
  ·exact apC h1 ho.1
  ·exact K0 h2 ho.2 u hu
def abO {arr:Array yf} {t:yD} {p:Pl} {cs new:List AV} {vs:List yf} {o:Nat} {S':Nat->Prop} {m':Mp} (hb:w.heap[p.b]? =some (.cells arr t (0,0))) (hr:bP O.af m S w cs p.b p.o)
  (hv:az O.af m S w new vs) (hl:o+new.length<=cs.length) (hs:p.o+cs.length<=arr.size) {w':yh} (hm:du m m') (hS:∀b,S b->S' b) (aP:fA S w w')
  (hw:w'.heap[p.b]? =some (.cells (arr.toList.take (p.o+o)++vs++arr.toList.drop (p.o+o+vs.length)).toArray t (0,0))):bP O.af m' S' w' (over o new cs) p.b p.o:=by
 obtain ⟨us,h1,h2,h3⟩:=rY cs p.b p.o hr;have hvl:=il _ _ hv;have h4:az O.af m S w (over o new cs) (us.take o++vs++us.drop (o+new.length)):=lA (lA (Dr o h1) hv) (G2 _ h1);refine Dx _ _ _ (gK hm hS aP _ _ h4) (fun j u hj=>?_);have sG:∀k u,us[k]? =some u->arr[p.o+k]? =some u:=by
  intro k u hk
  have:=h3 k u hk
  simpa [World.cell?,hb] using this
 simp only [World.cell?,hw,tP,yJ,xd];rw [tJ];have e1:(arr.toList.take (p.o+o)).length=p.o+o:=by rw [yI,vN];omega
 have e2:(us.take o).length=o:=by rw [yI];omega
 by_cases c1:j<o
 ·have g1:(us.take o++vs++us.drop (o+new.length))[j]? =us[j]? :=by
   rw [xu,xU (by omega),ub c1]
  rw [g1] at hj;rw [xu,xU (by omega),ub (by omega)];simpa using sG j u hj
 ·by_cases c2:j<o+vs.length
  ·have g1:(us.take o++vs++us.drop (o+new.length))[j]? =vs[j-o]? :=by
    rw [xu,xF (by omega),e2,xU (by omega)]
   rw [g1] at hj;rw [xu,xF (by omega),e1,xU (by omega),show p.o+j-(p.o+o)=j-o by omega];exact hj
  ·have g1:(us.take o++vs++us.drop (o+new.length))[j]? =us[j]? :=by
    rw [xu,xF (by omega),e2,xF (by omega),yac]
    congr 1
    omega
   rw [g1] at hj;rw [xu,xF (by omega),e1,xF (by omega),yac,show p.o+o+vs.length+(p.o+j-(p.o+o)-vs.length)=p.o+j by omega];simpa using sG j u hj
def Li {o:Nat} {new cs:List AV} (hl:o+new.length<=cs.length):(over o new cs).length=cs.length:=by
 simp only [over,yL,yI,xT];omega
def aaj {o:Nat} {new cs:List AV} (h:aG cs=true) (h':aG new=true):aG (over o new cs)=true:=
 Dj (Dj (Bt _ h) h') (zM _ _ h)
def arE {o:y5} {t:yD} {x y:xo} {sz:Nat} {v:AV} {ap:Hp} {aY:Nat} (hH:fo O H) (ht:b7 O m S w tm a.tmps) (hh:aT O m S w hp ct)
  (ho:o.op= .store t x y) (hz:cK O.P t=some sz) (hv:cI tm hp ct (.st sz (aK H x) (aK H y))=some (v,ap,aY)):sF O m S w a hp ct o v ap aY:=by
 simp only [cI] at hv;have rx:=cw hH ht x;cases hx:aE tm (aK H x)<;>rw [hx] at hv rx<;>simp only [reduceCtorEq] at hv
 rename_i id k;simp only [ah] at rx;obtain ⟨p,hm,ex⟩:=rx
 split at hv
 case h_2=>cases hv
 rename_i pu Oq z cs hg
 cases hc:(yx (cellsOf (aE tm (aK H y))).length sz&&yF (k+sz) cs.length&&cm (cellsOf (aE tm (aK H y)))) with
 | false=>rw [hc] at hv;cases hv
 | true=>
  rw [hc] at hv;simp only [yB,yd,yj] at hv;obtain ⟨rfl,rfl,rfl⟩:=hv;simp only [ye] at hc;have c1:=ym hc.1.1;have c2:=yA hc.1.2;have ry:=PY (cw hH ht y) hc.2;have hl:=il _ _ ry;obtain ⟨p',arr,t',g1,g2,g3,g4,g5,g6,g7,g8,g9,g10⟩:=hh.obj id _ _ hg hm;rw [hm] at g1;injection g1 with g1
  subst g1;have eB:=K0 ry hc.2;have fQ:=run_storeCells_at O.P p.b (p.o+k) t' (a.eval y).cells.toList 0 arr w g2 (by rw [hl];omega) eB;simp only [yZ] at fQ;have ax8:(a.eval y).cells.size=sz:=by simp_all
  have nG:fh O m S (w.setRow p.b (arr.toList.take (p.o+k)++(a.eval y).cells.toList++arr.toList.drop (p.o+k+(a.eval y).cells.toList.length)).toArray) id
    (.cells true (pu&&aG (cellsOf (aE tm (aK H y)))) Oq z (over k (cellsOf (aE tm (aK H y))) cs)):=by
   refine ⟨p,_,t',hm,setRow_heap w p.b arr _ t' _ g2,g3,by rw [Li (by omega)];exact g4,?_,fun h=>by rw [Li (by omega)];exact g6 h,?_,?_,fun _=>g9 rfl,by simp⟩
   ·grind
   ·exact abO g2 g7 ry (by omega) (by omega) du.refl (fun _ h=>h) (fun b hb=>setRow_other w p.b b _ (fun e=>g9 rfl (e▸hb))) (setRow_heap w p.b arr _ t' _ g2)
   ·intro h;simp only [ye] at h;exact aaj (g8 h.1) h.2
  obtain ⟨e1,e2⟩:=Hc hh hg hm (g9 rfl) (PK w p.b _) nG (fun r hr=>by rw [g2] at hr;cases hr);refine ⟨.skip,undef,_,m,S,?_,.inr ⟨rfl,rfl⟩,e1,by simp [ah,az,undef],du.refl,e2⟩;simp only [execOp,ho,Instr.storeAt,ex,Instr.sureAddr,Sem.run_bind,Sem.run_pure,Result.andThen_ok,storeVar,mW hz,ax8,ne_eq,ybU,xd];simp [fQ]
def aak {d:vj} {k k':yf} (h:Instr.sameNow d k k'=some true):k=k':=by
 unfold Instr.sameNow at h
 split at h
 ·grind
 ·rename_i p q;simp only [yd] at h;have h2:(p.data==q.data)=true:=by cases p;exact h
  cases p;cases q
  grind
 ·grind
 ·cases h
def sameBits_self {d:vj} {k k':yf} (h:Instr.sameNow d k k'=some true) (n:Nat):Instr.sameBits n k' k=true:=by
 have e:=aak h;subst e;unfold Instr.sameNow at h
 split at h
 ·simp [Instr.sameBits]
 ·simp only [yd] at h;simp [Instr.sameBits,h]
 ·simp [Instr.sameBits]
 ·cases h
def Put (af:Nat->Nat) (m:Mp) (S:Nat->Prop) (w:yh) (d:vj) (k x:yf) (es:List uC) (i:Nat) (jA dQ:List AV):Prop:=
 (Instr.findNow d k es i=some none/\az af m S w jA (es.map (·.key)++[k])/\az af m S w dQ (es.map (·.val)++[x]))\/
 ∃(j:Nat) (e0:uC),Instr.findNow d k es i=some (some (i+j,e0.val))/\es[j]? =some e0/\Instr.sameNow d k e0.key=some true/\az af m S w jA (es.map (·.key))/\az af m S w dQ ((es.map (·.val)).set j x)
def acN {af:Nat->Nat} {vk vx:AV} {k x:yf} {d:vj} (hk:ah af m S w vk k) (hx:ah af m S w vx x) (hd:fits d vk=true):∀(ks vs:List AV) (es:List uC) (i:Nat) (jA dQ:List AV),
  az af m S w ks (es.map (·.key))->az af m S w vs (es.map (·.val))->Au vk vx ks vs=some (jA,dQ)->Put af m S w d k x es i jA dQ
 | [],[],es,i,jA,dQ,h1,h2,h=>by
  simp only [az,List.map_eq_nil_iff] at h1;subst h1;obtain ⟨rfl,rfl⟩:=h;exact .inl ⟨rfl,by simp [az,hk],by simp [az,hx]⟩
 | [],_::_,es,i,jA,dQ,h1,h2,h=>by simp [Au] at h
 | _::_,[],es,i,jA,dQ,h1,h2,h=>by simp [Au] at h
 | c::ks,v::vs,es,i,jA,dQ,h1,h2,h=>by
  cases es with
  | nil=>simp [az] at h1
  | cons e es=>
   obtain ⟨u,t,⟨rfl,rfl⟩,hc,Oo⟩:=h1;obtain ⟨u',t',⟨rfl,rfl⟩,hv,zn⟩:=h2;simp only [Au] at h
   cases gG:Ea vk c with
   | none=>simp [gG] at h
   | some b=>
    have hs:=abK (d:=d) hk hc gG hd
    cases b with
    | true=>
     simp only [gG,yd,yj] at h;obtain ⟨rfl,rfl⟩:=h;refine .inr ⟨0,e,by simp [Instr.findNow,hs],rfl,hs,?_,?_⟩
     ·simp only [xe,az];exact ⟨_,_,rfl,hc,Oo⟩
     ·simp only [xe,List.set_cons_zero,az];exact ⟨_,_,rfl,hx,zn⟩
    | false=>
     simp only [gG] at h
     cases hm:Au vk vx ks vs with
     | none=>simp [hm] at h
     | some q=>
      obtain ⟨k1,v1⟩:=q;simp only [hm,yd,yj] at h;obtain ⟨rfl,rfl⟩:=h;rcases acN hk hx hd ks vs es (i+1) k1 v1 Oo zn hm with ⟨g1,g2,g3⟩ | ⟨j,e0,g1,g2,g3,g4,g5⟩
      ·refine .inl ⟨by simp [Instr.findNow,hs,g1],?_,?_⟩
       ·simp only [xe,xh,az];exact ⟨_,_,rfl,hc,g2⟩
       ·simp only [xe,xh,az];exact ⟨_,_,rfl,hv,g3⟩
      ·refine .inr ⟨j+1,e0,?_,by simpa using g2,g3,?_,?_⟩
       ·simp only [Instr.findNow,hs,g1]
        grind
       ·simp only [xe,az];exact ⟨_,_,rfl,hc,g4⟩
       ·simp only [xe,List.set_cons_succ,az];exact ⟨_,_,rfl,hv,g5⟩
def Dm (w:yh) (g:Nat) (o:ybd):One w {w with heap:=w.heap.setIfInBounds g o} g:=
 ⟨rfl,rfl,rfl,by simp,fun b hb=>by simp [Array.getElem?_setIfInBounds_ne (fun e=>hb e.symm)]⟩
def KN {g:Nat} {o q:ybd} (h:w.heap[g]? =some q):({w with heap:=w.heap.setIfInBounds g o}:yh).heap[g]? =some o:=by grind
def abP {o:y5} {t kt e:yD} {x k y:xo} {kk:Nat} {v:AV} {ap:Hp} {aY:Nat} (hH:fo O H) (ht:b7 O m S w tm a.tmps) (hh:aT O m S w hp ct)
  (ho:o.op= .mapUpdate t x k y\/o.op= .insert t x k y) (hu:O.P.underlying t=some (.map kt e)) (rE:VE.keyOf O.P kt=some kk) (hv:cI tm hp ct (.oP kk (aK H x) (aK H k) (aK H y))=some (v,ap,aY)):sF O m S w a hp ct o v ap aY:=by
 simp only [cI] at hv;have rx:=cw hH ht x;cases hx:aE tm (aK H x)<;>rw [hx] at hv rx<;>simp only [reduceCtorEq] at hv
 rename_i id;simp only [ah] at rx;obtain ⟨p,hm,ex⟩:=rx
 split at hv
 case h_2=>cases hv
 rename_i ks vs hg
 cases hc:sd kk (aE tm (aK H k)) with
 | false=>simp [hc] at hv
 | true=>
  simp only [hc,Bool.not_true,yS] at hv
  cases bi:Au (aE tm (aK H k)) (aE tm (aK H y)) ks vs with
  | none=>simp [bi] at hv
  | some q=>
   obtain ⟨jA,dQ⟩:=q;simp only [bi,yd,yj] at hv;obtain ⟨rfl,rfl,rfl⟩:=hv;obtain ⟨d,iC,gH,X3⟩:=aag rE hc;obtain ⟨p',es,clock,g1,g2,g3,g4,g5,g6⟩:=hh.obj id _ _ hg hm;rw [hm] at g1;injection g1 with g1
   subst g1;have azD:=acN (d:=d) (cw hH ht k) (cw hH ht y) X3 ks vs es.toList 0 jA dQ g3 g4 bi
   have fin:∀(CL:Array uC) (c':Nat),(Instr.mapUpdate t (a.eval x) (a.eval k) (a.eval y)).run O.P w= .ok () {w with heap:=w.heap.setIfInBounds p.b (.map CL c')}->
     az O.af m S w jA (CL.toList.map (·.key))->az O.af m S w dQ (CL.toList.map (·.val))->sF O m S w a hp ct o (.ae []) (bc hp id (.mp true jA dQ)) ct:=by
    intro CL c' fQ h1 h2
    have aP:fA S w {w with heap:=w.heap.setIfInBounds p.b (.map CL c')}:=fun b hb=>(Dm w p.b _).other b (fun e=>g5 rfl (e▸hb))
    have nG:fh O m S {w with heap:=w.heap.setIfInBounds p.b (.map CL c')} id (.mp true jA dQ):=
     ⟨p,CL,c',hm,KN g2,gK (fun _ _ h=>h) (fun _ h=>h) aP _ _ h1,gK (fun _ _ h=>h) (fun _ h=>h) aP _ _ h2,fun _=>g5 rfl,by simp⟩
    obtain ⟨e1,e2⟩:=Hc hh hg hm (g5 rfl) (Dm w p.b _) nG (fun r hr=>by rw [g2] at hr;cases hr);refine ⟨.skip,undef,_,m,S,?_,.inr ⟨rfl,rfl⟩,e1,by simp [ah,az,undef],du.refl,e2⟩;rcases ho with ho | ho<;>simp [execOp,ho,fQ]
   have oU:=KF (P:=O.P) (w:=w) iC gH false (a.eval k);rcases azD with ⟨h1,h2,h3⟩ | ⟨j,e0,h1,h2,h3,h4,h5⟩
   ·refine fin (es.push ⟨a.eval k,a.eval y,clock⟩) (clock+1) ?_ (by simpa using h2) (by simpa using h3);rw [ex];simp [Instr.mapUpdate,run_underlying hu,MapKept.run_getObj_map g2,oU,Instr.findKey,run_underlying iC,h1,MapKept.run_setObj_map _ g2]
   ·have hj:es[j]? =some e0:=by simp_all
    simp only [yg] at h1;have ah0:=aak h3
    refine fin (es.modify j fun e=>{e with key:=a.eval k,val:=a.eval y}) clock ?_ ?_ ?_
    ·rw [ex];have hsb:Instr.sameBits 10000 (a.eval k) (a.eval k)=true:=by have:=sameBits_self h3 10000;rwa [<-ah0] at this
     simp [Instr.mapUpdate,run_underlying hu,MapKept.run_getObj_map g2,oU,Instr.findKey,run_underlying iC,h1,MapKept.run_setObj_map _ g2,hj,Instr.keyThatStays,hsb,ah0.symm]
    ·have:(es.modify j fun e=>{e with key:=a.eval k,val:=a.eval y}).toList.map (·.key)=es.toList.map (·.key):=by
      apply yai
      grind
     grind
    ·have:(es.modify j fun e=>{e with key:=a.eval k,val:=a.eval y}).toList.map (·.val)=(es.toList.map (·.val)).set j (a.eval y):=by
      apply yai
      grind
     grind
def arF (t:ByteArray) (i:Nat):(t.get! i).toNat=(t.data.toList.map y9).getD i 0:=by
 have:t.get! i=t.data[i]! :=by cases t;rfl
 rw [this];by_cases h:i<t.data.size
 ·grind
 ·simp only [Array.getElem!_eq_getD,Array.getD_eq_getD_getElem?,List.getD_eq_getElem?_getD,List.getElem?_map,Array.getElem?_toList];rw [Array.getElem?_eq_none (by omega)];rfl
def anN (t:ByteArray) (i:Nat):decodeL (t.data.toList.map y9) i=Utf8.decode t i:=by
 have eh:(t.data.toList.map y9).length=t.size:=by simp
 simp only [decodeL,Utf8.decode,arF,eh]
def apD {o:y5} {x:xo} {v:AV} {ap:Hp} {aY:Nat} (hH:fo O H) (ht:b7 O m S w tm a.tmps) (hh:aT O m S w hp ct)
  (ho:o.op= .next x true) (hv:cI tm hp ct (.oR (aK H x))=some (v,ap,aY)):sF O m S w a hp ct o v ap aY:=by
 simp only [cI] at hv;have rx:=cw hH ht x;cases hx:aE tm (aK H x)<;>rw [hx] at hv rx<;>simp only [reduceCtorEq] at hv
 rename_i id;simp only [ah] at rx;obtain ⟨p,hm,ex⟩:=rx
 split at hv
 case h_2=>cases hv
 rename_i s pos hg;obtain ⟨p',t,g1,g2,g3,g4⟩:=hh.obj id _ _ hg hm;rw [hm] at g1;injection g1 with g1
 subst g1;have aB:(getObj p.b).run O.P w= .ok (.stringIter t pos) w:=by simp [getObj,Sem.run,g2]
 have hlen:s.length=t.size:=by rw [<-g3];simp
 cases hc:yP pos s.length with
 | false=>
  rw [hc] at hv;simp only [yS,yd,yj] at hv;obtain ⟨rfl,rfl,rfl⟩:=hv;have aW:¬pos<t.size:=by
   intro h
   have:yP pos s.length=true:=by simp [yP];omega
   grind
  refine ⟨.value (.tuple #[.bool false]),.tuple #[.bool false],w,m,S,?_,.inl rfl,hh,by simp [ah,az],du.refl,b8.refl⟩;simp [execOp,ho,ex,Instr.next,aB,aW]
 | true=>
  rw [hc] at hv;simp only [yB] at hv;have aW:pos<t.size:=by
   simp_all
  cases hdc:decodeL s pos with | mk c wd=>
  rw [hdc] at hv;simp only [yd,yj] at hv;obtain ⟨rfl,rfl,rfl⟩:=hv;have hd:Utf8.decode t pos=(c,wd):=by rw [<-anN,g3,hdc]
  have nG:fh O m S {w with heap:=w.heap.setIfInBounds p.b (.stringIter t (pos+wd))} id (.si s (pos+wd)):=⟨p,t,hm,KN g2,g3,g4⟩;obtain ⟨e1,e2⟩:=Hc hh hg hm g4 (Dm w p.b _) nG (fun r hr=>by rw [g2] at hr;cases hr);refine ⟨.value (.tuple #[.bool true,goInt pos,.int .i32 c]),_,_,m,S,?_,.inl rfl,e1,by simp [ah,az,goInt],du.refl,e2⟩
  have bc:(setObj p.b (.stringIter t (pos+wd))).run O.P w= .ok () {w with heap:=w.heap.setIfInBounds p.b (.stringIter t (pos+wd))}:=by simp [setObj,Sem.run,g2]
  simp [execOp,ho,ex,Instr.next,aB,aW,hd,bc]
end
end
section
open Go
def G3 {hp:Hp} {id i:Nat}:aB (dU hp id) i=if id=i then none else aB hp i:=by
 induction hp with
 | nil=>simp [dU,aB]
 | cons x r ih=>
  obtain ⟨j,q⟩:=x;simp only [dU];by_cases hj:j=id
  ·subst hj;simp only [vd,yB,ih,aB];by_cases hi:j=i
   ·grind
   ·have:yx j i=false:=by
     cases hq:yx j i with
     | false=>rfl
     | true=>exact absurd (ym hq) hi
    grind
  ·have hb:yx j id=false:=by
    cases hq:yx j id with
    | false=>rfl
    | true=>exact absurd (ym hq) hj
   simp only [hb,yS];rw [show aB ((j,q)::dU r id) i=bif yx j i then some q else aB (dU r id) i from rfl,ih];by_cases hi:j=i
   ·subst hi
    have:¬id=j:=fun h=>hj h.symm
    simp [vd,this,aB]
   ·have rG:yx j i=false:=by
     cases hq:yx j i with
     | false=>rfl
     | true=>exact absurd (ym hq) hi
    simp [rG,aB]
section
variable {O:bl} {H:Hint} {m:Mp} {S:Nat->Prop} {w:yh} {tm:Env} {a:Act} {hp:Hp} {ct:Nat}
def Src (P:y8) (w:yh) (size n:Nat) (news:List yf) (x:yf):Prop:=
 (∀w',(Builtin.lenOf x).run P w'= .ok n w')/\news.length=n*size/\
 ∀w',w'.heap=w.heap->∀k,k<=n->(Builtin.firstCells size k x).run P w'= .ok (news.take (k*size)).toArray w'
def G4 {P:y8} {size n c:Nat} {b:Addr} {news:List yf} (hl:news.length=n*size) (hc:∀j u,news[j]? =some u->w.cell? (b.add j)=some u):
  Src P w size n news (.slice (some b) n c):=by
 refine ⟨fun w'=>by simp [Builtin.lenOf],hl,fun w' hw k hk=>?_⟩;have hle:k*size<=news.length:=by rw [hl];exact yT _ hk
 refine run_firstCells_some (P:=P) w' size k b n c (news.take (k*size)) (by rw [yI];omega) (fun j v hv=>?_);rw [List.getElem?_take] at hv
 split at hv
 ·have:=hc j v hv
  simpa [World.cell?,hw] using this
 ·cases hv
def acO {P:y8} {size:Nat}:Src P w size 0 [] (.slice none 0 0):=
 ⟨fun w'=>by simp [Builtin.lenOf],by simp,fun w' _ k hk=>by simp [Builtin.firstCells]⟩
def amW (s:ByteArray) (k:Nat):(s.extract 0 k).data.map (fun b=>Value.int .u8 b.toNat)=((s.data.toList.map fun b=>Value.int .u8 (b.toNat:Int)).take k).toArray:=by
 have:(s.extract 0 k).data=s.data.extract 0 k:=by simp
 grind
def arG {P:y8} {s:ByteArray}:Src P w 1 s.size (s.data.toList.map fun b=>Value.int .u8 (b.toNat:Int)) (.string s):=by
 refine ⟨fun w'=>by simp [Builtin.lenOf],by simp,fun w' _ k hk=>?_⟩;simp only [Builtin.firstCells,Sem.run_pure,Nat.mul_one];rw [amW]
def ZX {af:Nat->Nat}:∀l:List UInt8,az af m S w (Lz (l.map y9)) (l.map fun b=>Value.int .u8 (b.toNat:Int))
 | []=>by simp [Lz,az]
 | b::r=>by
  exact ⟨_,_,rfl,by simp [ah],ZX r⟩
def aal {size n:Nat} {vx:AV} {x:yf} {cs:List AV} (hh:aT O m S w hp ct) (hx:ah O.af m S w vx x) (h:lE hp size vx=some (n,cs)):
  ∃us,az O.af m S w cs us/\Src O.P w size n us x:=by
 cases vx<;>simp only [lE,reduceCtorEq] at h
 case aa=>
  obtain ⟨rfl,rfl⟩:=h;subst hx;exact ⟨[],by simp [az],acO⟩
 case ai ex n' dP=>
  cases hc:yx dP.length (n'*size) with
  | false=>rw [hc] at h;cases h
  | true=>
   rw [hc] at h;obtain ⟨rfl,rfl⟩:=h;have hl:=ym hc;rcases hx with ⟨b,o,c,rfl,h1,h2,h3,h4,h5⟩ | ⟨ad,rfl,rfl,rfl⟩
   ·obtain ⟨us,g1,g2,g3⟩:=rY _ b o h5;exact ⟨us,g1,G4 (by omega) (fun j u hj=>by rw [oe];exact g3 j u hj)⟩
   ·exact ⟨[],by simp [az],G4 (by simp) (fun j u hj=>by simp at hj)⟩
 case aC id o n'=>
  cases hg:aB hp id with
  | none=>simp [hg] at h
  | some ob=>
   cases ob<;>simp only [hg,reduceCtorEq] at h
   rename_i rw pu ex z dP
   cases hc:yF (o+n'*size) dP.length with
   | false=>rw [hc] at h;cases h
   | true=>
    rw [hc] at h;simp only [yB,yd,yj] at h;obtain ⟨rfl,rfl⟩:=h;have hl:=yA hc;obtain ⟨p,c,hm,rfl,h1,h2⟩:=hx;have hr:=Qh (o:=0) (n:=0) hh hg hm;have mh:=Bv (n'*size) _ _ _ (p9 o _ _ _ hr);obtain ⟨us,g1,g2,g3⟩:=rY _ p.b (p.o+o) mh;refine ⟨us,g1,G4 ?_ (fun j u hj=>by rw [oe];exact g3 j u hj)⟩
    grind
def anO {size n:Nat} {vx:AV} {x:yf} {cs:List AV} (hh:aT O m S w hp ct) (hx:ah O.af m S w vx x) (h:so hp size vx=some (n,cs)):
  ∃us,az O.af m S w cs us/\Src O.P w size n us x:=by
 cases vx<;>try exact aal hh hx h
 simp only [so] at h
 cases hc:yx size 1 with
 | false=>rw [hc] at h;cases h
 | true=>
  rw [hc] at h;obtain ⟨rfl,rfl⟩:=h
  have:=ym hc
  subst this;obtain ⟨t,rfl,rfl⟩:=hx;refine ⟨_,ZX _,?_⟩
  have:(List.map y9 t.data.toList).length=t.size:=by simp
  rw [this];exact arG
def amd {P:y8} {t u ty e:yD} {i:ybV} (ht:P.underlying t=some (.slice e)) (hu:(∃e',P.underlying u=some (.slice e'))\/P.underlying u=some .string) (hi:P.info? e=some i)
  {g o ia pP:Nat} {JN:Array yf} {te:yD} (hg:w.heap[g]? =some (.cells JN te (0,0))) {x:yf} {n:Nat} {news:List yf} (hs:Src P w i.size n news x) (h1:∀u∈news,u.oneCell'=true)
  (Eb:ia+n<=pP) (Sh:o+ia*i.size+news.length<=JN.size):
  (Builtin.append_ #[t,u] ty #[.slice (some ⟨g,o,none⟩) ia pP,x]).run P w=
   .ok (.slice (some ⟨g,o,none⟩) (ia+n) pP) (w.setRow g (JN.toList.take (o+ia*i.size)++news++JN.toList.drop (o+ia*i.size+news.length)).toArray):=by
 obtain ⟨mP,zt,X8⟩:=hs;have hf:=X8 w rfl n (yo _);rw [yN (by omega)] at hf;have aP:=run_storeCells_at P g (o+ia*i.size) te news 0 JN w hg (by omega) h1;rcases hu with ⟨e',hd⟩ | hd<;>
  simp [Builtin.append_,run_underlying ht,run_underlying hd,vJ,typeInfo,hi,mP,Eb,hf,oe,aP]
def Pu {P:y8} {t u ty e:yD} {i:ybV} {z:yf} (ht:P.underlying t=some (.slice e)) (hu:(∃e',P.underlying u=some (.slice e'))\/P.underlying u=some .string) (hi:P.info? e=some i) (hz:i.zero=some z)
  {s:yf} {base:Option Addr} {ia pP:Nat} (es:s= .slice base ia pP) {mH:List yf} (ho:Src P w i.size ia mH s) {x:yf} {n:Nat} {news:List yf} (hs:Src P w i.size n news x)
  (hg:pP<ia+n) (h63:ia+n<=1099511627776) (X7:(ia+n)*i.bytes<=1099511627776):
  (Builtin.append_ #[t,u] ty #[s,x]).run P w=
   .ok (.slice (some ⟨w.heap.size,0,none⟩) (ia+n) (grownCap w (ia+n) pP e))
    (w.drew.alloc (.cells ((mH++news).toArray++Builtin.zeroCells z.cells (grownCap w (ia+n) pP e-(ia+n))) e)):=by
 obtain ⟨mP,zt,X8⟩:=hs;obtain ⟨ho1,X9,ho3⟩:=ho;have hf:=X8 w.drew rfl n (yo _);rw [yN (by omega)] at hf;have hfo:=ho3 w.drew rfl ia (yo _);have hn:¬(ia+n<=pP):=by omega
 have azE:¬(9223372036854775807<((ia:Int)+(n:Int))):=by omega
 have Sh:=growslice_fits (need:=ia+n) (old:=pP) (bytes:=i.bytes) hg (by omega);have azF:¬(281474976710656<Builtin.nextslicecap (ia+n) pP*i.bytes):=by omega
 subst es;rcases hu with ⟨e',hd⟩ | hd
 all_goals
  simp [Builtin.append_,run_underlying ht,run_underlying hd,vJ,typeInfo,zeroValue,hi,hz,mP,hn,azE,azF,Question.forced,hf,hfo,newRow,askRoom,grownCap]
  grind
def P2 {e:yD} {z:yf} {sz need cap:Nat} {cs:List AV} {us:List yf} (hh:aT O m S w hp ct) (hr:az O.af m S w cs us) (hl:us.length=need*sz) (hz:z.cells.size=sz)
  (Mk:Bool) (hpp:Mk=true->aG cs=true) (hc:need<=cap):
  let w':=w.drew.alloc (.cells (us.toArray++Builtin.zeroCells z.cells (cap-need)) e)
  let p:Pl:=⟨w.heap.size,0,cap*sz,sz⟩
  ∀m',du m m'->m' ct=some p->fh O m' S w' ct (.cells true Mk false sz cs):=by
 intro w' p m' hm hi;have aP:fA S w w':=fun b hb=>by
  have:=hh.slt b hb
  exact RowKit.Below.heap_alloc w.drew _ b (by simpa using this)
 have kR:w'.heap[w.heap.size]? =some (.cells (us.toArray++Builtin.zeroCells z.cells (cap-need)) e (0,0)):=heap_alloc_new w.drew _;have iY:=il _ _ hr;refine ⟨p,_,e,hi,kR,rfl,?_,?_,by simp,?_,hpp,?_,by simp⟩
 ·show cs.length<=cap*sz
  rw [<-iY,hl];exact yT _ hc
 ·show 0+cap*sz<=_
  rw [Array.size_append,uL,size_zeroCells,hz,hl,<-wI]
  grind
 ·refine PZ kR cs us 0 (gK hm (fun _ h=>h) aP _ _ hr) (fun j u hj=>?_)
  grind
 ·intro _ hS
  have:=hh.slt _ hS
  grind
def alZ (hh:aT O m S w hp ct) (g:ybd):fA S w (w.drew.alloc g):=fun b hb=>by
 have:=hh.slt b hb
 exact RowKit.Below.heap_alloc w.drew _ b (by simpa using this)
def P3 (hh:aT O m S w hp ct) {hp0:Hp} {g:ybd} {p:Pl} {o:Obj} (MI:∀i q,aB hp0 i=some q->aB hp i=some q) (hb:p.b=w.heap.size)
  (ho:∀m',du m m'->m' ct=some p->fh O m' S (w.drew.alloc g) ct o):
  aT O (fj m ct p) S (w.drew.alloc g) ((ct,o)::hp0) (ct+1)/\b8 m S w hp (fj m ct p) S (w.drew.alloc g) ((ct,o)::hp0) ct:=by
 have hn:m ct=none:=by
  cases h:m ct with
  | none=>rfl
  | some q=>have:=hh.lt _ _ h;omega
 have hle:=jM hn (p:=p);have aP:=alZ hh g;have hold:∀b,b<w.heap.size->(w.drew.alloc g).heap[b]? =w.heap[b]? :=fun b hb=>RowKit.Below.heap_alloc w.drew _ b (by simpa using hb)
 have eh:(w.drew.alloc g).heap.size=w.heap.size+1:=by simp
 have ej:∀i q,aB ((ct,o)::hp0) i=some q->i≠ct->aB hp i=some q:=fun i q h hi=>by
  rw [gL,yr (fun e=>hi e.symm)] at h
  grind
 refine ⟨⟨?_,?_,?_,?_,?_,?_,?_,?_,fun i q hq=>(by
  by_cases hc:i=ct
  ·omega
  ·have:=hh.aW _ _ (ej i q hq hc);omega)⟩,⟨rfl,rfl,rfl,by omega,?_,fun _ h=>h,fun b hb=>aP b hb,fun b hb=> .inl hb,?_,fun i q _ h=>hle i q h,fun b r hb=>⟨r,(hold b (xm.1 hb).1).trans hb⟩⟩⟩
 ·intro i q pi hi bJ;by_cases hc:i=ct
  ·subst hc;rw [gL] at hi;simp only [xA,yd] at hi;subst hi;exact ho _ hle dZ
  ·rw [dY hc] at bJ;exact qd hle (fun _ h=>h) aP (fun q' bK=>hold _ (hh.blt i q' bK)) (fun _ _ h=>h) (hh.obj i q pi (ej i q hi hc) bJ)
 ·intro i q bJ;by_cases hc:i=ct
  ·omega
  ·rw [dY hc] at bJ;have:=hh.lt i q bJ;omega
 ·intro i j oi oj pi pj hi hj bJ fK e;by_cases ci:i=ct
  ·by_cases cj:j=ct
   ·grind
   ·subst ci;rw [dZ] at bJ;rw [dY cj] at fK;injection bJ with bJ
    subst bJ
    have:=hh.blt j pj fK
    omega
  ·rw [dY ci] at bJ;by_cases cj:j=ct
   ·subst cj;rw [dZ] at fK;injection fK with fK
    subst fK
    have:=hh.blt i pi bJ
    omega
   ·rw [dY cj] at fK;exact hh.inj i j oi oj pi pj (ej i oi hi ci) (ej j oj hj cj) bJ fK e
 ·intro b hb;have:=hh.slt b hb;omega
 ·intro i q bJ;by_cases hc:i=ct
  ·subst hc;rw [dZ] at bJ;injection bJ with bJ
   subst bJ;omega
  ·rw [dY hc] at bJ;have:=hh.blt i q bJ;omega
 ·intro i q bJ;have h0:=hh.fB;by_cases hc:i=ct
  ·subst hc;rw [dZ] at bJ;injection bJ with bJ
   subst bJ;omega
  ·rw [dY hc] at bJ;exact hh.low i q bJ
 ·intro b hb;have h0:=hh.fB;exact (hold b (by omega)).trans (hh.kP b hb)
 ·have h0:=hh.fB;omega
 ·intro b hb _;exact hold b hb
 ·rintro b ⟨i,q,pi,h1,h2,h3⟩;by_cases hc:i=ct
  ·subst hc;rw [dZ] at h2;injection h2 with h2
   subst h2;exact .inr (by omega)
  ·rw [dY hc] at h2;exact .inl ⟨i,q,pi,ej i q h1 hc,h2,h3⟩
def anP (hh:aT O m S w hp ct) {id:Nat} {o o':Obj} {p p':Pl} {w':yh} (hg:aB hp id=some o) (hm:m id=some p) (hn:¬S p.b) (hw:One w w' p.b) (hk:∀r:uB,w.heap[p.b]? =some (.loop r)->∃r':uB,w'.heap[p.b]? =some (.loop r')) (hb:p'.b=p.b)
  (ho:∀m',du m m'->m' ct=some p'->fh O m' S w' ct o'):
  aT O (fj m ct p') S w' ((ct,o')::dU hp id) (ct+1)/\b8 m S w hp (fj m ct p') S w' ((ct,o')::dU hp id) ct:=by
 have jC:m ct=none:=by
  cases h:m ct with
  | none=>rfl
  | some q=>have:=hh.lt _ _ h;omega
 have hle:=jM jC (p:=p');have aP:fA S w w':=fun b hb=>hw.other b (fun e=>hn (e▸hb))
 have ej:∀i q,aB ((ct,o')::dU hp id) i=some q->i≠ct->aB hp i=some q/\i≠id:=fun i q h hi=>by
  rw [gL,yr (fun e=>hi e.symm),G3] at h
  grind
 have ah1:∀i q pi,aB hp i=some q->i≠id->m i=some pi->pi.b≠p.b:=fun i q pi h hi bJ e=>hi (hh.inj i id q o pi p h hg bJ hm e)
 refine ⟨⟨?_,?_,?_,?_,?_,?_,?_,?_,fun i q hq=>(by
  by_cases hc:i=ct
  ·omega
  ·have:=hh.aW _ _ (ej i q hq hc).1;omega)⟩,⟨hw.os,hw.tape,hw.output,by rw [hw.size];exact yo _,?_,fun _ h=>h,fun b hb=>aP b hb,fun b hb=> .inl hb,?_,fun i q _ h=>hle i q h,fun b r hb=>(by
  by_cases hc:b=p.b
  ·grind
  ·exact ⟨r,(hw.other b hc).trans hb⟩)⟩⟩
 ·intro i q pi hi bJ;by_cases hc:i=ct
  ·subst hc;rw [gL] at hi;simp only [xA,yd] at hi;subst hi;exact ho _ hle dZ
  ·rw [dY hc] at bJ;obtain ⟨h1,h2⟩:=ej i q hi hc;exact qd hle (fun _ h=>h) aP (fun q' bK=>hw.other _ (ah1 i q q' h1 h2 bK)) (fun _ _ h=>h) (hh.obj i q pi h1 bJ)
 ·intro i q bJ;by_cases hc:i=ct
  ·omega
  ·rw [dY hc] at bJ;have:=hh.lt i q bJ;omega
 ·intro i j oi oj pi pj hi hj bJ fK e;by_cases ci:i=ct
  ·by_cases cj:j=ct
   ·grind
   ·subst ci;rw [dZ] at bJ;rw [dY cj] at fK
    grind
  ·rw [dY ci] at bJ;obtain ⟨h1,h2⟩:=ej i oi hi ci;by_cases cj:j=ct
   ·subst cj;rw [dZ] at fK;injection fK with fK
    subst fK;exact (ah1 i oi pi h1 h2 bJ (by rw [e,hb])).elim
   ·rw [dY cj] at fK;exact hh.inj i j oi oj pi pj h1 (ej j oj hj cj).1 bJ fK e
 ·intro b hb;rw [hw.size];exact hh.slt b hb
 ·intro i q bJ;rw [hw.size];by_cases hc:i=ct
  ·subst hc;rw [dZ] at bJ;injection bJ with bJ
   subst bJ;rw [hb];exact hh.blt id p hm
  ·rw [dY hc] at bJ;exact hh.blt i q bJ
 ·intro i q bJ;by_cases hc:i=ct
  ·subst hc;rw [dZ] at bJ;injection bJ with bJ
   subst bJ;rw [hb];exact hh.low id p hm
  ·rw [dY hc] at bJ;exact hh.low i q bJ
 ·intro b hb
  rw [hw.other b (fun e=>by have:=hh.low id p hm;omega)];exact hh.kP b hb
 ·rw [hw.size];exact hh.fB
 ·intro b _ cC;exact hw.other b (fun e=>cC (e▸HF hg hm))
 ·rintro b ⟨i,q,pi,h1,h2,h3⟩;by_cases hc:i=ct
  ·subst hc;rw [dZ] at h2;injection h2 with h2
   subst h2;exact .inl ⟨id,o,p,hg,hm,by rw [<-h3,hb]⟩
  ·rw [dY hc] at h2;exact .inl ⟨i,q,pi,(ej i q h1 hc).1,h2,h3⟩
def arH {P:y8} {e:yD} {s cB:Nat} {z:AV} (hs:cK P e=some s) (hb:AT P e=some cB) (hz:mB P e=some z):
  ∃ti zv,P.info? e=some ti/\ti.size=s/\ti.bytes=cB/\ti.zero=some zv/\z=er zv:=by
 unfold cK at hs;unfold AT at hb;unfold mB at hz
 cases hi:P.info? e with
 | none=>simp [hi] at hs
 | some ti=>
  simp only [hi,yd] at hs hb hz
  cases fk:ti.zero with
  | none=>simp [fk] at hz
  | some zv=>
   grind
def Hd {o:y5} {v:AV} {u:yf} {w':yh} {m':Mp} {S':Nat->Prop} {ap:Hp} {aY:Nat} (h1:(execOp a.eval o).run O.P w= .ok (.value u) w') (h2:aT O m' S' w' ap aY) (h3:ah O.af m' S' w' v u)
  (h4:du m m') (h5:b8 m S w hp m' S' w' ap ct):sF O m S w a hp ct o v ap aY:=⟨_,u,w',m',S',h1,.inl rfl,h2,h3,h4,h5⟩
def apE {o:y5} {b':yD} {t u e:yD} {sz cB:Nat} {z:AV} {x y:xo} {v:AV} {ap:Hp} {aY:Nat} (hH:fo O H) (ht:b7 O m S w tm a.tmps) (hh:aT O m S w hp ct)
  (fQ:(execOp a.eval o).run O.P w=((do pure (.value (<-Builtin.append_ #[t,u] b' #[a.eval x,a.eval y])):Sem yaB)).run O.P w)
  (A0:O.P.underlying t=some (.slice e)) (hu:(∃e',O.P.underlying u=some (.slice e'))\/O.P.underlying u=some .string) (hs:cK O.P e=some sz) (hb:AT O.P e=some cB) (hz:mB O.P e=some z) (zp:(cellsOf z).length=sz)
  (hv:cI tm hp ct (.aR sz cB (aK H x) (aK H y))=some (v,ap,aY)):sF O m S w a hp ct o v ap aY:=by
 simp only [cI] at hv;obtain ⟨ti,zv,zq,rfl,rfl,Ya,rfl⟩:=arH hs hb hz;have aO:∀u' w',(Builtin.append_ #[t,u] b' #[a.eval x,a.eval y]).run O.P w= .ok u' w'->(execOp a.eval o).run O.P w= .ok (.value u') w':=fun u' w' h=>by
  rw [fQ,Sem.run_bind,h];rfl
 have qO:m ct=none:=by
  cases h:m ct with
  | none=>rfl
  | some q=>have:=hh.lt _ _ h;omega
 have JM:zv.cells.size=ti.size:=by
  have:=il _ _ (Di (af:=O.af) (m:=m) (S:=S) (w:=w) zv)
  rw [<-zp,<-this];simp
 cases Ch:so hp ti.size (aE tm (aK H y)) with
 | none=>simp [Ch] at hv
 | some q=>
  obtain ⟨n,new⟩:=q;simp only [Ch] at hv;obtain ⟨news,ja,dV⟩:=anO hh (cw hH ht y) Ch;have Ot:=il _ _ ja;have rx:=cw hH ht x
  cases hx:aE tm (aK H x) with
  | aa=>
   rw [hx] at hv rx;simp only at hv;simp only [ah] at rx
   cases h0:yx n 0 with
   | true=>
    rw [h0] at hv;simp only [yB,yd,yj] at hv;obtain ⟨rfl,rfl,rfl⟩:=hv;have A1:=ym h0;subst A1;have RR:news=[]:=yC (by rw [dV.2.1];simp)
    subst RR;have hf:=dV.2.2 w rfl 0 (yo _);have ko:=dV.1 w;refine ⟨.value (.slice none 0 0),.slice none 0 0,w,m,S,?_,.inl rfl,hh,by simp [ah],du.refl,b8.refl⟩;rw [fQ,rx];rcases hu with ⟨e',hu⟩ | hu<;>
     simp [Builtin.append_,run_underlying A0,run_underlying hu,vJ,typeInfo,zq,ko,hf]
   | false=>
    rw [h0] at hv;simp only [yS] at hv
    cases hc:(yF n room&&(yF (n*ti.bytes) room&&yP 0 ti.size)) with
    | false=>rw [hc] at hv;cases hv
    | true=>
     rw [hc] at hv;simp only [yB,yd,yj] at hv;obtain ⟨rfl,rfl,rfl⟩:=hv;simp only [ye] at hc;have c1:=yA hc.1;have c2:=yA hc.2.1;simp only [room] at c1 c2;have A1:0<n:=by
      rcases xn n with h | h
      ·subst h;simp at h0
      ·exact h
     have hr:=Pu (P:=O.P) (ty:=b') (w:=w) A0 hu zq Ya (s:= .slice none 0 0) rfl (acO (P:=O.P) (size:=ti.size)) dV (by omega) (by omega) (by simpa using c2);simp only [yg,List.nil_append] at hr;have kY:=grownCap_ge w n 0 e;have kR:=P2 (e:=e) (z:=zv) (cap:=grownCap w n 0 e) hh ja (need:=n) (sz:=ti.size) dV.2.1 JM (aG new) (fun h=>h) kY;obtain ⟨k1,k2⟩:=P3 hh (hp0:=hp) (p:=⟨w.heap.size,0,grownCap w n 0 e*ti.size,ti.size⟩) (fun _ _ h=>h) rfl kR;exact Hd (aO _ _ (by rw [rx];exact hr)) k1 (by simp only [ah];exact ⟨_,_,dZ,rfl,kY,by simp⟩) (jM qO) k2
  | ai ex k cs=>
   rw [hx] at hv rx
   cases ex with
   | false=>simp at hv
   | true=>
    simp only at hv;have rx0:=rx;simp only [ah] at rx;have rx1:∃ad mH,a.eval x= .slice (some ad) k k/\az O.af m S w cs mH/\mH.length=cs.length/\(∀(j:Nat) (u:yf),mH[j]? =some u->w.cell? (ad.add j)=some u)/\aG cs=true:=by
     rcases rx with ⟨bb,oo,c,ex,h1,h2,h3,h4,h5⟩ | ⟨ad,ex,rfl,rfl⟩
     ·have oU:c=k:=h2 (by trivial);subst oU;obtain ⟨mH,g1,g2,g3⟩:=rY cs bb oo h5;exact ⟨_,mH,ex,g1,g2,fun j u hj=>by rw [oe];exact g3 j u hj,h4⟩
     ·exact ⟨ad,[],ex,by simp [az],rfl,fun j u hj=>by simp at hj,rfl⟩
    obtain ⟨ad,mH,ex,g1,g2,g3,h4⟩:=rx1
    cases h0:yx n 0 with
    | true=>
     rw [h0] at hv;simp only [yB,yd,yj] at hv;obtain ⟨rfl,rfl,rfl⟩:=hv;have A1:=ym h0;subst A1;have RR:news=[]:=yC (by rw [dV.2.1];simp)
     subst RR;have hf:=dV.2.2 w rfl 0 (yo _);have ko:=dV.1 w;refine ⟨.value (a.eval x),a.eval x,w,m,S,?_,.inl rfl,hh,rx0,du.refl,b8.refl⟩;rw [fQ,ex];rcases hu with ⟨e',hu⟩ | hu<;>
      simp [Builtin.append_,run_underlying A0,run_underlying hu,vJ,typeInfo,zq,ko,hf,storeCells]
    | false=>
     rw [h0] at hv;simp only [yS] at hv
     cases hc:(yF (k+n) room&&(yF ((k+n)*ti.bytes) room&&(yx cs.length (k*ti.size)&&yP 0 ti.size))) with
     | false=>rw [hc] at hv;cases hv
     | true=>
      rw [hc] at hv;simp only [yB,yd,yj] at hv;obtain ⟨rfl,rfl,rfl⟩:=hv;simp only [ye] at hc;have c1:=yA hc.1;have c2:=yA hc.2.1;have c3:=ym hc.2.2.1;simp only [room] at c1 c2;have A1:0<n:=by
       rcases xn n with h | h
       ·subst h;simp at h0
       ·exact h
      have Yb:Src O.P w ti.size k mH (.slice (some ad) k k):=G4 (by omega) g3;have hr:=Pu (P:=O.P) (ty:=b') (w:=w) A0 hu zq Ya rfl Yb dV (by omega) c1 c2;have kY:=grownCap_ge w (k+n) k e;have kR:=P2 (e:=e) (z:=zv) (cap:=grownCap w (k+n) k e) hh (lA g1 ja) (need:=k+n) (sz:=ti.size) (by rw [yL,g2,c3,dV.2.1,wI]) JM (aG cs&&aG new)
       (fun h=>by simp only [ye] at h;exact Dj h.1 h.2) kY
      obtain ⟨k1,k2⟩:=P3 hh (hp0:=hp) (p:=⟨w.heap.size,0,grownCap w (k+n) k e*ti.size,ti.size⟩) (fun _ _ h=>h) rfl kR;exact Hd (aO _ _ (by rw [ex];exact hr)) k1 (by simp only [ah];exact ⟨_,_,dZ,rfl,kY,by simp⟩) (jM qO) k2
  | aC id o0 k=>
   rw [hx] at hv rx;simp only at hv;simp only [ah] at rx;obtain ⟨p,c,hm,ex,h1,h2⟩:=rx
   split at hv
   case h_2=>cases hv
   rename_i pu Oq zz cs hg
   cases hc:(yx zz ti.size&&(yF (k+n) room&&(yF ((k+n)*ti.bytes) room&&(yF (o0+k*ti.size) cs.length&&(yP 0 ti.size&&cm new))))) with
   | false=>rw [hc] at hv;cases hv
   | true=>
    rw [hc] at hv;simp only [yB,yd,yj] at hv;obtain ⟨rfl,rfl,rfl⟩:=hv;simp only [ye] at hc;have c0:=ym hc.1;have c1:=yA hc.2.1;have c2:=yA hc.2.2.1;have c3:=yA hc.2.2.2.1;have c4:=hc.2.2.2.2.2;simp only [room] at c1 c2;obtain ⟨p',arr,t',g1,g2,g3,g4,g5,g6,g7,g8,g9,g10⟩:=hh.obj id _ _ hg hm;rw [hm] at g1;injection g1 with g1
    subst g1;subst c0;rw [g3] at h2;have Ou:bP O.af m S w (slice o0 (k*ti.size) cs) p.b (p.o+o0):=Bv _ _ _ _ (p9 _ _ _ _ g7);obtain ⟨mH,f1,f2,f3⟩:=rY _ _ _ Ou;have ah2:(slice o0 (k*ti.size) cs).length=k*ti.size:=by simp only [slice,yI,xT];omega
    have fe:(pu&&aG new)=true->aG (slice o0 (k*ti.size) cs++new)=true:=fun h=>by
     simp only [ye] at h;exact Dj (Bt _ (zM _ _ (g8 h.1))) h.2
    by_cases Eb:k+n<=c
    ·have eB:=K0 ja c4;have Sh:p.o+o0+k*ti.size+news.length<=arr.size:=by
      rw [dV.2.1]
      have:(k+n)*ti.size<=c*ti.size:=yT _ Eb
      rw [wI] at this;omega
     have hr:=amd (P:=O.P) (ty:=b') (w:=w) A0 hu zq g2 dV eB Eb Sh;have ho:∀m',du m m'->m' ct=some ⟨p.b,p.o+o0,c*ti.size,ti.size⟩->
       fh O m' S (w.setRow p.b (arr.toList.take (p.o+o0+k*ti.size)++news++arr.toList.drop (p.o+o0+k*ti.size+news.length)).toArray) ct
        (.cells true (pu&&aG new) false ti.size (slice o0 (k*ti.size) cs++new)):=by
      intro m' hle hi;have aP:fA S w (w.setRow p.b (arr.toList.take (p.o+o0+k*ti.size)++news++arr.toList.drop (p.o+o0+k*ti.size+news.length)).toArray):=fun b hb=>setRow_other w p.b b _ (fun e=>g9 rfl (e▸hb))
      refine ⟨_,_,t',hi,setRow_heap w p.b arr _ t' _ g2,rfl,?_,?_,by simp,?_,fe,fun _=>g9 rfl,by simp⟩
      ·show (slice o0 (k*ti.size) cs++new).length<=c*ti.size
       rw [yL,ah2,<-Ot,dV.2.1,<-wI];exact yT _ Eb
      ·show p.o+o0+c*ti.size<=_
       rw [uL,yL,yL,yI,xT,vN];omega
      ·refine Dx _ (mH++news) _ (lA (gK hle (fun _ h=>h) aP _ _ f1) (gK hle (fun _ h=>h) aP _ _ ja)) (fun j u hj=>?_);show World.cell? _ ⟨p.b,p.o+o0+j,none⟩=some u
       simp only [World.cell?,setRow_heap w p.b arr _ t' _ g2,tP,yJ,xd];rw [tJ];have e1:(arr.toList.take (p.o+o0+k*ti.size)).length=p.o+o0+k*ti.size:=by rw [yI,vN];omega
       by_cases X5:j<k*ti.size
       ·rw [xU (by omega)] at hj;rw [xu,xU (by omega),ub (by omega)]
        have:=f3 j u hj
        simpa [World.cell?,g2] using this
       ·rw [xF (by omega)] at hj;have hjl:=(List.getElem?_eq_some_iff.1 hj).1;rw [xu,xF (by omega),e1,xU (by omega),show p.o+o0+j-(p.o+o0+k*ti.size)=j-mH.length by omega];exact hj
     obtain ⟨k1,k2⟩:=anP (p':=⟨p.b,p.o+o0,c*ti.size,ti.size⟩) hh hg hm (g9 rfl) (PK w p.b _) (fun r hr=>by rw [g2] at hr;cases hr) rfl ho;exact Hd (aO _ _ (by rw [ex];exact hr)) k1 (by simp only [ah];exact ⟨_,c,dZ,rfl,Eb,by simp⟩) (jM qO) k2
    ·have Yb:Src O.P w ti.size k mH (.slice (some ⟨p.b,p.o+o0,none⟩) k c):=G4 (by omega) (fun j u hj=>by rw [oe];exact f3 j u hj)
     have hr:=Pu (P:=O.P) (ty:=b') (w:=w) A0 hu zq Ya rfl Yb dV (by omega) c1 c2;have kY:=grownCap_ge w (k+n) c e;have kR:=P2 (e:=e) (z:=zv) (cap:=grownCap w (k+n) c e) hh (lA f1 ja) (need:=k+n) (sz:=ti.size) (by rw [yL,f2,ah2,dV.2.1,wI]) JM (pu&&aG new) fe kY;obtain ⟨k1,k2⟩:=P3 hh (hp0:=dU hp id) (p:=⟨w.heap.size,0,grownCap w (k+n) c e*ti.size,ti.size⟩) (fun i q h=>by
      rw [G3] at h;by_cases hi:id=i
      ·simp [hi] at h
      ·simpa only [hi,xd] using h) rfl kR
     exact Hd (aO _ _ (by rw [ex];exact hr)) k1 (by simp only [ah];exact ⟨_,_,dZ,rfl,kY,by simp⟩) (jM qO) k2
  | _=>rw [hx] at hv;simp at hv
end
end
section
open Go
section
variable {O:bl} {H:Hint} {m:Mp} {S:Nat->Prop} {w:yh} {tm:Env} {a:Act} {hp:Hp} {ct:Nat}
def amr {n:Nat} {cs:List AV} (h:aG cs=true):aG (cs.take n)=true:=Bt n h
def ZL:∀(n:Nat) {cs:List AV},cm cs=true->cm (cs.take n)=true
 | 0,_,_=>by simp [cm]
 | n+1,[],_=>by simp [cm]
 | n+1,c::cs,h=>by
  simp only [List.take_succ_cons,cm,ye] at h ⊢;exact ⟨h.1,ZL n h.2⟩
def apF {o:y5} {b':yD} {t u e:yD} {sz:Nat} {x y:xo} {v:AV} {ap:Hp} {aY:Nat} (hH:fo O H) (ht:b7 O m S w tm a.tmps) (hh:aT O m S w hp ct)
  (fQ:(execOp a.eval o).run O.P w=((do pure (.value (<-Builtin.copy_ #[t,u] b' #[a.eval x,a.eval y])):Sem yaB)).run O.P w)
  (A0:O.P.underlying t=some (.slice e)) (hs:cK O.P e=some sz)
  (hv:cI tm hp ct (.mf sz (aK H x) (aK H y))=some (v,ap,aY)):sF O m S w a hp ct o v ap aY:=by
 simp only [cI] at hv
 cases Ch:lE hp sz (aE tm (aK H y)) with
 | none=>simp [Ch] at hv
 | some q=>
  obtain ⟨n,new⟩:=q;simp only [Ch] at hv;obtain ⟨news,ja,dV⟩:=aal hh (cw hH ht y) Ch;have Ot:=il _ _ ja;have rx:=cw hH ht x;cases hx:aE tm (aK H x)<;>rw [hx] at hv rx<;>simp only [reduceCtorEq] at hv
  rename_i id o0 k;simp only [ah] at rx;obtain ⟨p,c,hm,ex,h1,h2⟩:=rx
  split at hv
  case h_2=>cases hv
  rename_i pu Oq zz cs hg
  cases hc:(yx zz sz&&(yF (o0+k*sz) cs.length&&cm new)) with
  | false=>rw [hc] at hv;cases hv
  | true=>
   rw [hc] at hv;simp only [yB,yd,yj] at hv;obtain ⟨rfl,rfl,rfl⟩:=hv;simp only [ye] at hc;have c0:=ym hc.1;have c1:=yA hc.2.1;subst c0;obtain ⟨p',arr,t',g1,g2,g3,g4,g5,g6,g7,g8,g9,g10⟩:=hh.obj id _ _ hg hm;rw [hm] at g1;injection g1 with g1
   subst g1;have ah3:min n k*zz<=k*zz:=yT _ (Nat.min_le_right _ _);have aG0:min n k*zz<=n*zz:=yT _ (yaI _ _);have rt:=Dr (min n k*zz) ja;have nH:(news.take (min n k*zz)).length=min n k*zz:=by rw [yI,dV.2.1];omega
   have aHa:(new.take (min n k*zz)).length=min n k*zz:=by rw [yI,<-Ot,dV.2.1];omega
   have eB:=K0 rt (ZL _ hc.2.2);have hf:=dV.2.2 w rfl (min n k) (yaI _ _);have aP:=run_storeCells_at O.P p.b (p.o+o0) t' (news.take (min n k*zz)) 0 arr w g2 (by rw [nH];omega) eB;simp only [yZ] at aP;have nG:fh O m S (w.setRow p.b (arr.toList.take (p.o+o0)++news.take (min n k*zz)++arr.toList.drop (p.o+o0+(news.take (min n k*zz)).length)).toArray) id
     (.cells true (pu&&aG new) Oq zz (over o0 (new.take (min n k*zz)) cs)):=by
    refine ⟨p,_,t',hm,setRow_heap w p.b arr _ t' _ g2,g3,by rw [Li (by omega)];exact g4,?_,fun h=>by rw [Li (by omega)];exact g6 h,?_,?_,fun _=>g9 rfl,by simp⟩
    ·rw [uL,yL,yL,yI,xT,vN,nH];omega
    ·exact abO g2 g7 rt (by omega) (by omega) du.refl (fun _ h=>h) (fun b hb=>setRow_other w p.b b _ (fun e=>g9 rfl (e▸hb))) (setRow_heap w p.b arr _ t' _ g2)
    ·intro h;simp only [ye] at h;exact aaj (g8 h.1) (amr h.2)
   obtain ⟨e1,e2⟩:=Hc hh hg hm (g9 rfl) (PK w p.b _) nG (fun r hr=>by rw [g2] at hr;cases hr)
   refine Hd (u:=goInt ((min n k:Nat):Int)) (m':=m) (S':=S) ?_ e1 (by simp [ah,goInt]) du.refl e2;rw [fQ,ex];simp [Builtin.copy_,run_underlying A0,dV.1 w,mW hs,show Nat.min n k=min n k from rfl,hf,aP]
def arI {o:y5} {k:Nat} {v:AV} {ap:Hp} {aY:Nat} (hH:fo O H) (ht:b7 O m S w tm a.tmps) (hh:aT O m S w hp ct)
  (hv:cI tm hp ct (a6 O.P H k o)=some (v,ap,aY)):sF O m S w a hp ct o v ap aY:=by
 have lU:∀{r:AV×Hp×Nat},cI tm hp ct bad=some r->False:=fun h=>by simp [bad,cI] at h
 cases ho:o.op with
 | call c=>
  obtain ⟨callee,args,ts⟩:=c;simp only [a6,ho] at hv
  split at hv
  ·cases X2:H.mode k<;>simp [X2,cI] at hv
  ·rename_i _ b
   split at hv
   ·rename_i x y t u gh oS;obtain ⟨al⟩:=args;obtain ⟨tl⟩:=ts;simp only at gh oS;subst gh;subst oS;obtain ⟨cs,fQ⟩:=GN (O:=O) (w:=w) (a:=a) ho;have RS:(execOp a.eval o).run O.P w=((do pure (.value (<-Builtin.append_ #[t,u] o.type #[a.eval x,a.eval y])):Sem yaB)).run O.P w:=by
     rw [fQ];simp [builtin]
    have key:∀{z:AV} {sz cB:Nat} {e:yD},O.P.underlying t=some (.slice e)->((∃e',O.P.underlying u=some (.slice e'))\/O.P.underlying u=some .string)->cK O.P e=some sz->AT O.P e=some cB->mB O.P e=some z->
      cI tm hp ct (bif yx (cellsOf z).length sz then .aR sz cB (aK H x) (aK H y) else bad)=some (v,ap,aY)->sF O m S w a hp ct o v ap aY:=by
     intro z sz cB e h1 h2 h3 h4 h5 h
     cases hb:yx (cellsOf z).length sz with
     | false=>rw [hb] at h;exact (lU h).elim
     | true=>
      rw [hb] at h;exact apE hH ht hh RS h1 h2 h3 h4 h5 (ym hb) h
    split at hv
    ·rename_i e e' h1 h2
     split at hv
     ·rename_i sz cB z h3 h4 h5
      exact key h1 (.inl ⟨_,h2⟩) h3 h4 h5 hv
     ·exact (lU hv).elim
    ·rename_i e h1 h2
     split at hv
     ·rename_i sz cB z h3 h4 h5
      exact key h1 (.inr h2) h3 h4 h5 hv
     ·exact (lU hv).elim
    ·exact (lU hv).elim
   ·repeat' split at hv
    all_goals simp [cI,bad] at hv
   ·rename_i x y t u gh oS;obtain ⟨al⟩:=args;obtain ⟨tl⟩:=ts;simp only at gh oS;subst gh;subst oS;obtain ⟨cs,fQ⟩:=GN (O:=O) (w:=w) (a:=a) ho;have RS:(execOp a.eval o).run O.P w=((do pure (.value (<-Builtin.copy_ #[t,u] o.type #[a.eval x,a.eval y])):Sem yaB)).run O.P w:=by
     rw [fQ];simp [builtin]
    split at hv
    ·rename_i e h1
     split at hv
     ·rename_i sz h3;exact apF hH ht hh RS h1 h3 hv
     ·exact (lU hv).elim
    ·exact (lU hv).elim
   ·simp [cI] at hv
   ·simp [cI] at hv
   ·exact (lU hv).elim
  ·exact (lU hv).elim
 | store t x y=>
  simp only [a6,ho] at hv
  split at hv
  ·rename_i s hs;exact arE hH ht hh ho hs hv
  ·exact (lU hv).elim
 | mapUpdate t x k y=>
  simp only [a6,ho] at hv
  split at hv
  ·rename_i kt e hu
   split at hv
   ·rename_i kk rE;exact abP hH ht hh (.inl ho) hu rE hv
   ·exact (lU hv).elim
  ·exact (lU hv).elim
 | insert t x k y=>
  simp only [a6,ho] at hv
  split at hv
  ·rename_i kt e hu
   split at hv
   ·rename_i kk rE;exact abP hH ht hh (.inr ho) hu rE hv
   ·exact (lU hv).elim
  ·exact (lU hv).elim
 | next x b=>
  cases b with
  | false=>simp only [a6,ho] at hv;exact (lU hv).elim
  | true=>exact apD hH ht hh ho (by simpa only [a6,ho] using hv)
 | binOp op t x y ty=>
  cases op<;>simp only [a6,ho,pI,qC] at hv
  case eql=>
        repeat' split at hv
        all_goals first
         | (simp [cI,bad] at hv;done)
         | (cases hb:(O.P.stoodInHeld t||O.P.eqGuardType O.P.depth t)<;>rw [hb] at hv<;>simp [cI,bad] at hv)
  case neq=>
        repeat' split at hv
        all_goals first
         | (simp [cI,bad] at hv;done)
         | (cases hb:(O.P.stoodInHeld t||O.P.eqGuardType O.P.depth t)<;>rw [hb] at hv<;>simp [cI,bad] at hv)
  all_goals simp [cI] at hv
 | buildSlice t n parts=>
  simp only [a6,ho] at hv
  repeat' split at hv
  all_goals first
   | (simp [cI,bad] at hv;done)
   | (
     revert hv;generalize yF _ _=bb;intro hv;cases bb<;>simp [cI,bad] at hv
     try (split at hv<;>simp [cI,bad] at hv))
 | makeMap t r=>
  cases r<;>simp only [a6,ho] at hv
  ·repeat' split at hv
   all_goals simp [cI,bad] at hv
  ·exact (lU hv).elim
 | _=>
  simp only [a6,ho] at hv
  (repeat' split at hv)
  all_goals first
   | contradiction
   | (simp [cI,bad] at hv;done)
end
end
section
section
variable {hp H:Hp} {tm cg:Env}
def acP (hl:cY hp H) {id:Nat} {rw pu ex:Bool} {sz:Nat} {cs:List AV} (h:aB hp id=some (.cells rw pu ex sz cs)):∃rw',aB H id=some (.cells rw' pu ex sz cs):=by
 obtain ⟨o',h1,rw',rfl,_⟩:=hl id _ h;exact ⟨rw',h1⟩
def acQ (hl:cY hp H) {id:Nat} {rw:Bool} {ks vs:List AV} (h:aB hp id=some (.mp rw ks vs)):∃rw',aB H id=some (.mp rw' ks vs):=by
 obtain ⟨o',h1,rw',rfl,_⟩:=hl id _ h;exact ⟨rw',h1⟩
def acR (hl:cY hp H) {sz:Nat} {ag:Bool} {x v:AV} (h:iA hp sz ag x=some v):iA H sz ag x=some v:=by
 cases x<;>simp only [iA,reduceCtorEq] at h ⊢
 ·rename_i id o
  cases hg:aB hp id with
  | none=>simp [hg] at h
  | some ob=>
   cases ob<;>simp only [hg,reduceCtorEq] at h
   obtain ⟨r,h1⟩:=acP hl hg;simp only [h1];exact h
 ·exact h
def apG (hl:cY hp H) {k x:AV} {v:Option AV} (h:Ak hp k x=some v):Ak H k x=some v:=by
 cases x<;>simp only [Ak,reduceCtorEq] at h ⊢
 ·exact h
 ·rename_i id
  cases hg:aB hp id with
  | none=>simp [hg] at h
  | some ob=>
   cases ob<;>simp only [hg,reduceCtorEq] at h
   obtain ⟨r,h1⟩:=acQ hl hg;simp only [h1];exact h
 ·exact h
def apH (hl:cY hp H) {k:Nat} {x v:AV} (h:fp hp k x=some v):fp H k x=some v:=by
 unfold fp at h ⊢
 split at h
 all_goals first
  | exact h
  | cases h
  | skip
 rename_i id
 cases hg:aB hp id with
 | none=>simp [hg] at h
 | some ob=>
  cases ob<;>simp only [hg,reduceCtorEq] at h
  obtain ⟨r,h1⟩:=acQ hl hg;simp only [h1];exact h
def apI (hl:cY hp H) {k:Cut} {x v:AV} {lo hi:Option X} (h:eV hp k x tm lo hi=some v):eV H k x tm lo hi=some v:=by
 unfold eV at h ⊢
 split at h
 all_goals first
  | exact h
  | cases h
  | skip
 rename_i sz id o n
 cases hg:aB hp id with
 | none=>simp [hg] at h
 | some ob=>
  cases ob<;>simp only [hg,reduceCtorEq] at h
  obtain ⟨r,h1⟩:=acP hl hg;simp only [h1];exact h
def anQ (hl:cY hp H) {o:Op} {v:AV} (h:bw tm hp o=some v):bw tm H o=some v:=by
 cases o<;>simp only [bw,reduceCtorEq] at h ⊢<;>first
  | exact h
  | exact acR hl h
  | exact apH hl h
  | exact apI hl h
  | skip
 rename_i kk zero ok m k
 cases hk:sd kk (aE tm k) with
 | false=>rw [hk] at h;cases h
 | true=>
  rw [hk] at h;simp only [yB] at h ⊢
  cases hr:Ak hp (aE tm k) (aE tm m) with
  | none=>simp [hr] at h
  | some r=>rw [apG hl hr];simpa only [hr] using h
def anR {o:Op} (hk:bA o=0) (hp H:Hp):bw tm hp o=bw tm H o:=by
 cases o with
 | dG k x lo hi=>
  cases k with
  | str=>simp only [bw,eV];cases aE tm x<;>rfl
  | sl sz=>simp [bA] at hk
  | ar n sz=>simp [bA] at hk
 | len k x=>
  match k,hk with
  | 0,_=>simp only [bw];unfold fp;split<;>simp_all
  | 1,_=>simp only [bw];unfold fp;split<;>simp_all
  | k+2,hk=>simp [bA] at hk
 | call md f xs=>cases md<;>simp [bA] at hk
 | _=>first
  | rfl
  | simp [bA] at hk
end
section
variable {tm cg:Env}
def dJ {x:X} (h:∀t,t∈iw x->aj cg t=aj tm t):aE cg x=aE tm x:=by
 cases x with
 | t i=>exact h i (by simp [iw])
 | c v=>rfl
def Bw:∀{xs:List X},(∀t,t∈sr xs->aj cg t=aj tm t)->dj cg xs=dj tm xs
 | [],_=>rfl
 | x::r,h=>by
  simp only [dj]
  rw [dJ (x:=x) (fun t ht=>h t (by simp [sr,ht])),Bw (fun t ht=>h t (by simp [sr,ht]))]
def P4:∀{ps:List (Nat×Nat×X)} {z:List AV},(∀t,t∈Ij ps->aj cg t=aj tm t)->fill cg z ps=fill tm z ps
 | [],_,_=>rfl
 | (o,s,x)::r,z,h=>by
  simp only [fill]
  rw [dJ (x:=x) (fun t ht=>h t (by simp [Ij,ht]))]
  rw [P4 (ps:=r) (fun t ht=>h t (by simp [Ij,ht]))]
def aam {d:Nat} {x:Option X} (h:∀t,t∈Ii x->aj cg t=aj tm t):cW cg d x=cW tm d x:=by
 cases x with
 | none=>rfl
 | some x=>simp only [cW];rw [dJ h]
def amX {hp:Hp} {k:Cut} {x:AV} {lo hi:Option X} (h1:∀t,t∈Ii lo->aj cg t=aj tm t) (h2:∀t,t∈Ii hi->aj cg t=aj tm t):
  eV hp k x cg lo hi=eV hp k x tm lo hi:=by
 unfold eV;simp only [aam h1,aam h2]
def ams {hp:Hp} {o:Op} (h:∀t,t∈jO o->aj cg t=aj tm t):bw cg hp o=bw tm hp o:=by
 cases o<;>simp only [jO,wJ] at h<;>simp only [bw]
 case pick c a b=>rw [dJ (x:=c) fun t ht=>h t (.inl ht),dJ (x:=a) fun t ht=>h t (.inr (.inl ht)),dJ (x:=b) fun t ht=>h t (.inr (.inr ht))]
 case fF z ps=>rw [P4 h]
 case CH f a b=>rw [Bw (xs:=a) fun t ht=>h t (.inl ht),Bw (xs:=b) fun t ht=>h t (.inr ht)]
 case dG k x lo hi=>rw [dJ (x:=x) fun t ht=>h t (.inl ht),amX (fun t ht=>h t (.inr (.inl ht))) (fun t ht=>h t (.inr (.inr ht)))]
 case mn xs=>rw [Bw h]
 case mx xs=>rw [Bw h]
 case bin op x y=>rw [dJ (x:=x) fun t ht=>h t (.inl ht),dJ (x:=y) fun t ht=>h t (.inr ht)]
 case eq n k x y=>rw [dJ (x:=x) fun t ht=>h t (.inl ht),dJ (x:=y) fun t ht=>h t (.inr ht)]
 case aM s x y=>rw [dJ (x:=x) fun t ht=>h t (.inl ht),dJ (x:=y) fun t ht=>h t (.inr ht)]
 case Ff l s x y=>rw [dJ (x:=x) fun t ht=>h t (.inl ht),dJ (x:=y) fun t ht=>h t (.inr ht)]
 case j9 x y=>rw [dJ (x:=x) fun t ht=>h t (.inl ht),dJ (x:=y) fun t ht=>h t (.inr ht)]
 case Fg l s g x y=>rw [dJ (x:=x) fun t ht=>h t (.inl ht),dJ (x:=y) fun t ht=>h t (.inr ht)]
 case Ol kk z ok x y=>rw [dJ (x:=x) fun t ht=>h t (.inl ht),dJ (x:=y) fun t ht=>h t (.inr ht)]
 all_goals first
  | rfl
  | (rename_i x;rw [dJ (x:=x) h])
def GO {hp ap:Hp} {ct:Nat} {o:Op} (h:∀t,t∈jO o->aj cg t=aj tm t):cO cg ap ct o=cO tm hp ct o:=by
 cases o<;>simp only [jO,wJ] at h<;>simp only [cO]
 case box s x=>rw [dJ (x:=x) h]
 case dT n s z ps=>rw [P4 h]
 case fI s b z x y=>rw [dJ (x:=x) fun t ht=>h t (.inl ht),dJ (x:=y) fun t ht=>h t (.inr ht)]
 case oQ x=>rw [dJ (x:=x) h]
def Bs {hp:Hp} {ct:Nat} {o:Op} (h:∀t,t∈jO o->aj cg t=aj tm t):cI cg hp ct o=cI tm hp ct o:=by
 cases o<;>simp only [jO,wJ] at h<;>simp only [cI]
 case st s x y=>rw [dJ (x:=x) fun t ht=>h t (.inl ht),dJ (x:=y) fun t ht=>h t (.inr ht)]
 case oP kk c a b=>rw [dJ (x:=c) fun t ht=>h t (.inl ht),dJ (x:=a) fun t ht=>h t (.inr (.inl ht)),dJ (x:=b) fun t ht=>h t (.inr (.inr ht))]
 case oR x=>rw [dJ (x:=x) h]
 case aR s b x y=>rw [dJ (x:=x) fun t ht=>h t (.inl ht),dJ (x:=y) fun t ht=>h t (.inr ht)]
 case mf s x y=>rw [dJ (x:=x) fun t ht=>h t (.inl ht),dJ (x:=y) fun t ht=>h t (.inr ht)]
end
end
section
open Go
structure Calm (w w':yh):Prop where
 os:w'.os=w.os
 tape:w'.tape=w.tape
 output:w'.output=w.output
 size:w.heap.size<=w'.heap.size
 same:∀b,b<w.heap.size->w'.heap[b]? =w.heap[b]?
def Calm.refl {w:yh}:Calm w w:=⟨rfl,rfl,rfl,yo _,fun _ _=>rfl⟩
def Al (O:bl) (w:yh):Prop:=(∀b,b<O.w0.heap.size->w.heap[b]? =O.w0.heap[b]?)/\O.w0.heap.size<=w.heap.size
def eI:Mp:=fun _=>none
def gO (af:Nat->Nat) (S:Nat->Prop) (w:yh) (lo:Nat):AV->yf->List Nat->Prop
 | .bt ex sz n cs,u,bs=>∃b o c arr t,bs=[b]/\u= .slice (some ⟨b,o,none⟩) n c/\n<=c/\(ex=true->c=n)/\lo<=b/\¬S b/\w.heap[b]? =some (.cells arr t (0,0))/\cs.length=n*sz/\
   o+c*sz<=arr.size/\bP af eI S w cs b o/\aG cs=true
 | r,u,bs=>bs=[]/\ah af eI S w r u/\aZ r=true
def jW (af:Nat->Nat) (S:Nat->Prop) (w:yh) (lo:Nat):List AV->List yf->List Nat->Prop
 | [],us,bs=>us=[]/\bs=[]
 | v::r,us,bs=>∃u t b1 b2,us=u::t/\bs=b1++b2/\gO af S w lo v u b1/\jW af S w lo r t b2
def mI (af:Nat->Nat) (S:Nat->Prop) (w:yh) (lo:Nat) (r:AV) (u:yf):Prop:=
 match r with
 | .ae vs=>∃(us:Array yf) (bs:List Nat),u= .tuple us/\jW af S w lo vs us.toList bs/\bs.Nodup
 | r=>∃bs,gO af S w lo r u bs
def zY (P:y8) (f:FuncId) (args:Array yf) (w:yh) (R:yaJ->yh->Prop):Prop:=
 ((callFunc f args).run P w= .ok (.enter f args) w/\CallsIn Fence.wide 0 P f args w R)\/∃u w',(callFunc f args).run P w= .ok (.value u) w'/\R (.returned u) w'
def abQ (O:bl) (w:yh) (S:Nat->Prop) (r:AV) (e:yaJ) (w':yh):Prop:=
 ∃u S',e= .returned u/\Calm w w'/\(∀b,S b->S' b)/\(∀b,S' b->S b\/w.heap.size<=b)/\(∀b,S' b->b<w'.heap.size)/\mI O.af S' w' w.heap.size r u
def ef (O:bl) (n:Nat) (aq:List AV) (r:AV):Prop:=
 ∀(w:yh) (S:Nat->Prop) (args:Array yf),Al O w->(∀b,S b->b<w.heap.size)->az O.af eI S w aq args.toList->aG aq=true->
  zY O.P (O.af n) args w (abQ O w S r)
def r5 (O:bl) (m:Mp) (S:Nat->Prop) (w:yh) (hp:Hp) (ct:Nat) (v:AV) (ap:Hp) (aY:Nat) (e:yaJ) (w':yh):Prop:=
 ∃u m' S',e= .returned u/\aT O m' S' w' ap aY/\ct<=aY/\ah O.af m' S' w' v u/\b8 m S w hp m' S' w' ap ct
def Am (O:bl) (n:Nat) (hp:Hp) (ct:Nat) (aq:List AV) (v:AV) (ap:Hp) (aY:Nat):Prop:=
 ∀(m:Mp) (S:Nat->Prop) (w:yh) (args:Array yf),aT O m S w hp ct->az O.af m S w aq args.toList->zY O.P (O.af n) args w (r5 O m S w hp ct v ap aY)
section
variable {af:Nat->Nat} {m m':Mp} {S S':Nat->Prop} {w w':yh}
mutual
def pE (hS:∀b,S b->S' b) (hw:fA S w w'):∀(v:AV) (u:yf),aZ v=true->ah af m S w v u->ah af m' S' w' v u
 | .int _ _,_,_,h | .bool _,_,_,h | .bM _ _,_,_,h | .str _,_,_,h | .jU,_,_,h | .aa,_,_,h | .iy,_,_,h | .jy,_,_,h | .undef,_,_,h=>by
  simpa only [ah] using h
 | .ptr id o,u,hp,h=>by simp [aZ] at hp
 | .bZ cs,u,hp,h=>by
  simp only [ah] at h ⊢;obtain ⟨b,o,h1,h2,h3,h4⟩:=h;refine ⟨b,o,h1,h2.imp id (hS b),h3,?_⟩;rcases h2 with rfl | h2
  ·simp only [bP]
  ·exact PL hS hw cs b o h3 h2 h4
 | .ai ex n cs,u,hp,h=>by
  simp only [ah] at h ⊢;rcases h with ⟨b,o,c,h1,h2,h3,h4,h5,h6⟩ | h
  ·refine .inl ⟨b,o,c,h1,h2,h3,h4.imp id (hS b),h5,?_⟩;rcases h4 with rfl | h4
   ·simp only [bP]
   ·exact PL hS hw cs b o h5 h4 h6
  ·exact .inr h
 | .bt _ _ _ _,u,hp,h=>by simp [aZ] at hp
 | .aC id o n,u,hp,h=>by simp [aZ] at hp
 | .fn (.f g) first cap,u,hp,h=>by
  simp only [ah] at h ⊢;simp only [aZ,ye] at hp;obtain ⟨fi,ca,h1,h2,h3⟩:=h;exact ⟨fi,ca,h1,rZ hS hw first _ hp.1 h2,rZ hS hw cap _ hp.2 h3⟩
 | .fn (.y l) _ _,u,hp,h=>by simp [aZ] at hp
 | .map id,u,hp,h=>by simp [aZ] at hp
 | .iV ks vs,u,hp,h=>by
  simp only [ah] at h ⊢;obtain ⟨b,es,clock,h1,h2,h3,h4,h5,h6,h7⟩:=h;exact ⟨b,es,clock,h1,hS b h2,h3,h4,(hw b h2).trans h5,rZ hS hw ks _ h3 h6,rZ hS hw vs _ h4 h7⟩
 | .it id,u,hp,h=>by simp [aZ] at hp
 | .agg cs,u,hp,h=>by
  simp only [ah] at h ⊢;simp only [aZ] at hp;obtain ⟨xs,h1,h2⟩:=h;exact ⟨xs,h1,rZ hS hw cs _ hp h2⟩
 | .ae cs,u,hp,h=>by
  simp only [ah] at h ⊢;simp only [aZ] at hp;obtain ⟨xs,h1,h2⟩:=h;exact ⟨xs,h1,rZ hS hw cs _ hp h2⟩
def rZ (hS:∀b,S b->S' b) (hw:fA S w w'):∀(vs:List AV) (us:List yf),aG vs=true->az af m S w vs us->az af m' S' w' vs us
 | [],us,_,h=>by simpa only [az] using h
 | v::r,us,hp,h=>by
  simp only [az] at h ⊢;simp only [aG,ye] at hp;obtain ⟨u,t,h1,h2,h3⟩:=h;exact ⟨u,t,h1,pE hS hw v u hp.1 h2,rZ hS hw r t hp.2 h3⟩
def PL (hS:∀b,S b->S' b) (hw:fA S w w'):∀(cs:List AV) (b o:Nat),aG cs=true->S b->bP af m S w cs b o->bP af m' S' w' cs b o
 | [],_,_,_,_,_=>by simp only [bP]
 | c::cs,b,o,hp,hb,h=>by
  simp only [bP] at h ⊢;simp only [aG,ye] at hp;obtain ⟨⟨u,h1,h2⟩,h3⟩:=h;exact ⟨⟨u,(KH (hw b hb)).trans h1,pE hS hw c u hp.1 h2⟩,PL hS hw cs b (o+1) hp.2 hb h3⟩
end
def Bu (hS:∀b,S b->S' b) (hw:fA S w w'):∀(cs:List AV) (b o:Nat),aG cs=true->w'.heap[b]? =w.heap[b]? ->bP af m S w cs b o->bP af m' S' w' cs b o
 | [],_,_,_,_,_=>by simp only [bP]
 | c::cs,b,o,hp,hb,h=>by
  simp only [aG,ye] at hp;obtain ⟨⟨u,h1,h2⟩,h3⟩:=h;exact ⟨⟨u,(KH hb).trans h1,pE hS hw c u hp.1 h2⟩,Bu hS hw cs b (o+1) hp.2 hb h3⟩
end
section
variable {O:bl} {m:Mp} {S S':Nat->Prop} {w w':yh} {hp:Hp} {ct:Nat}
def anS (hh:aT O m S w hp ct) (hw:Calm w w'):fA S w w':=fun b hb=>hw.same b (hh.slt b hb)
def Ds (hh:aT O m S w hp ct) (hw:Calm w w') (hS:∀b,S b->S' b) (hn:∀b,S' b->S b\/w.heap.size<=b) (hl:∀b,S' b->b<w'.heap.size):aT O m S' w' hp ct where
 obj id o p ho hm:=qd (fun _ _ h=>h) hS (anS hh hw) (fun q hq=>hw.same _ (hh.blt id q hq)) (fun q hq hs=>(hn _ hs).resolve_right (by have:=hh.blt id q hq;omega)) (hh.obj id o p ho hm)
 lt:=hh.lt
 inj:=hh.inj
 slt:=hl
 blt id p h:=yV (hh.blt id p h) hw.size
 low:=hh.low
 kP b hb:=(hw.same b (yV hb hh.fB)).trans (hh.kP b hb)
 fB:=Nat.le_trans hh.fB hw.size
 aW:=hh.aW
def BA {base:Nat} (hh:aT O m S w hp ct) (hw:Calm w w') (hS:∀b,S b->S' b) (hn:∀b,S' b->S b\/w.heap.size<=b):b8 m S w hp m S' w' hp base where
 os:=hw.os
 tape:=hw.tape
 output:=hw.output
 size:=hw.size
 same b hb _:=hw.same b hb
 sub:=hS
 still b hb:=hw.same b (hh.slt b hb)
 new b hb:=(hn b hb).imp id .inr
 own b hb:= .inl hb
 old _ _ _ h:=h
 loops b r hb:=⟨r,(hw.same b (xm.1 hb).1).trans hb⟩
def apJ {i:Nat} (hh:aT O m S w hp ct) (hi:m i=none) (Fj:i<ct) {p:Pl} (hb:p.b<w.heap.size) (bf:O.w0.heap.size<=p.b) (Fk:¬S p.b) (nI:∀j q,m j=some q->q.b≠p.b)
  (hf:∀o,aB hp i=some o->(fh O (fj m i p) S w i o/\¬iN o)\/(iN o/\fh O (fj m i p) (fun b=>S b\/b=p.b) w i o)):
  ∃S',aT O (fj m i p) S' w hp ct/\(∀b,S b->S' b)/\∀b,S' b->S b\/b=p.b:=by
 have aP:fA S w w:=fun _ _=>rfl
 have gen:∀S':Nat->Prop,(∀b,S b->S' b)->(∀b,S' b->S b\/b=p.b)->(∀o,aB hp i=some o->fh O (fj m i p) S' w i o)->aT O (fj m i p) S' w hp ct:=by
  intro S' h1 h2 h3;refine ⟨?_,?_,?_,?_,?_,?_,hh.kP,hh.fB,hh.aW⟩
  ·intro id o q ho hm;by_cases hc:id=i
   ·grind
   ·rw [dY hc] at hm;refine qd (jM hi) h1 aP (fun _ _=>rfl) (fun q' bK hs=>?_) (hh.obj id o q ho hm)
    grind
  ·intro id q hm;by_cases hc:id=i
   ·grind
   ·rw [dY hc] at hm;exact hh.lt id q hm
  ·intro a b oa ob pa pb ha cC CK sO e;by_cases ca:a=i
   ·by_cases cb:b=i
    ·grind
    ·subst ca;rw [dZ] at CK;rw [dY cb] at sO
     grind
   ·rw [dY ca] at CK;by_cases cb:b=i
    ·subst cb;rw [dZ] at sO
     grind
    ·rw [dY cb] at sO;exact hh.inj a b oa ob pa pb ha cC CK sO e
  ·intro b hs;rcases h2 b hs with h | h
   ·exact hh.slt b h
   ·grind
  ·intro id q hm;by_cases hc:id=i
   ·subst hc;rw [dZ] at hm
    grind
   ·rw [dY hc] at hm;exact hh.blt id q hm
  ·intro id q hm;by_cases hc:id=i
   ·subst hc;rw [dZ] at hm
    grind
   ·rw [dY hc] at hm;exact hh.low id q hm
 cases ho:aB hp i with
 | none=>exact ⟨S,gen S (fun _ h=>h) (fun _ h=> .inl h) (fun o h=>by rw [ho] at h;cases h),fun _ h=>h,fun _ h=> .inl h⟩
 | some o=>
  rcases hf o ho with ⟨h1,_⟩ | ⟨_,h1⟩
  ·exact ⟨S,gen S (fun _ h=>h) (fun _ h=> .inl h) (fun o' h=>by rw [ho] at h;injection h with h;subst h;exact h1),fun _ h=>h,fun _ h=> .inl h⟩
  ·exact ⟨_,gen (fun b=>S b\/b=p.b) (fun _ h=> .inl h) (fun _ h=>h) (fun o' h=>by rw [ho] at h;injection h with h;subst h;exact h1),fun _ h=> .inl h,fun _ h=>h⟩
def aa1 {af:Nat->Nat} {lo:Nat} {r:AV} {u:yf} {bs:List Nat} (h:gO af S w lo r u bs) (m:Mp) (hS:∀b,S b->S' b) (hbs:∀b,b∈bs->S' b):ah af m S' w (bT r) u:=by
 have aP:fA S w w:=fun _ _=>rfl
 cases r with
 | bt ex sz n cs=>
  obtain ⟨b,o,c,arr,t,rfl,rfl,h1,h2,h3,h4,h5,h6,h7,h8,h9⟩:=h;exact .inl ⟨b,o,c,rfl,h1,h2,.inr (hbs b (by simp)),h9,Bu hS aP cs b o h9 rfl h8⟩
 | _=>simp only [gO] at h;exact pE hS aP _ _ h.2.2 h.2.1
def aa2 {af:Nat->Nat} {lo:Nat} (m:Mp) (hS:∀b,S b->S' b):∀{vs:List AV} {us:List yf} {bs:List Nat},jW af S w lo vs us bs->(∀b,b∈bs->S' b)->az af m S' w (B5 vs) us
 | [],us,bs,h,_=>by simp only [jW] at h;exact h.1
 | v::r,us,bs,h,hb=>by
  obtain ⟨u,t,b1,b2,rfl,rfl,h1,h2⟩:=h;exact ⟨u,t,rfl,aa1 h1 m hS (fun b cC=>hb b (by simp [cC])),aa2 m hS h2 (fun b cC=>hb b (by simp [cC]))⟩
def QN {af:Nat->Nat} {lo:Nat} {r:AV} {u:yf} {bs:List Nat} (h:gO af S w lo r u bs):∀b,b∈bs->lo<=b/\b<w.heap.size:=by
 intro b hb
 cases r with
 | bt ex sz n cs=>
  simp only [gO] at h
  grind
 | _=>simp only [gO] at h;rw [h.1] at hb;cases hb
def QO {af:Nat->Nat} {lo:Nat}:∀{vs:List AV} {us:List yf} {bs:List Nat},jW af S w lo vs us bs->∀b,b∈bs->lo<=b/\b<w.heap.size
 | [],us,bs,h,b,hb=>by simp only [jW] at h;rw [h.2] at hb;cases hb
 | v::r,us,bs,h,b,hb=>by
  obtain ⟨u,t,b1,b2,rfl,rfl,h1,h2⟩:=h;rcases wJ.1 hb with hb | hb
  ·exact QN h1 b hb
  ·exact QO h2 b hb
def aa3 {af:Nat->Nat} {lo:Nat} {r:AV} {u:yf} (h:mI af S w lo r u) (m:Mp):∃S',(∀b,S b->S' b)/\(∀b,S' b->S b\/(lo<=b/\b<w.heap.size))/\ah af m S' w (shut r) u:=by
 have one:∀(r:AV) (bs:List Nat),shut r=bT r->gO af S w lo r u bs->∃S',(∀b,S b->S' b)/\(∀b,S' b->S b\/(lo<=b/\b<w.heap.size))/\ah af m S' w (shut r) u:=by
  intro r bs hs h;refine ⟨fun b=>S b\/b∈bs,fun _ h=> .inl h,fun b hb=>hb.imp (fun x=>x) (fun hb=>QN h b hb),?_⟩;rw [hs];exact aa1 h m (fun _ h=> .inl h) (fun _ h=> .inr h)
 cases r with
 | ae vs=>
  obtain ⟨us,bs,rfl,h1,h2⟩:=h;refine ⟨fun b=>S b\/b∈bs,fun _ h=> .inl h,fun b hb=>hb.imp (fun x=>x) (fun hb=>QO h1 b hb),?_⟩;exact ⟨us,rfl,aa2 m (fun _ h=> .inl h) h1 (fun _ h=> .inr h)⟩
 | _=>
  obtain ⟨bs,h⟩:=h;exact one _ bs rfl h
end
end
section
open Go
section
variable {O:bl} {m:Mp} {S:Nat->Prop} {w:yh} {H:Hp} {cH:Nat}
def LF {hp:Hp} {ct:Nat} {r:AV}:ct<=(fb hp ct r).2.2:=by
 cases r<;>simp only [fb]<;>omega
def LH:∀{vs:List AV} {hp:Hp} {ct:Nat},ct<=(ji hp ct vs).2.2
 | [],hp,ct=>by simp [ji]
 | v::r,hp,ct=>by
  simp only [ji];have h1:=LF (hp:=hp) (ct:=ct) (r:=v);have h2:=LH (vs:=r) (hp:=(fb hp ct v).2.1) (ct:=(fb hp ct v).2.2);omega
def QP {hp:Hp} {ct:Nat} {r:AV} (hf:∀id o,aB hp id=some o->id<ct):∀id o,aB hp id=some o->aB (fb hp ct r).2.1 id=some o:=by
 intro id o h;cases r<;>simp only [fb]<;>try exact h
 rw [gL,yr (by have:=hf id o h;omega)];exact h
def acS {hp:Hp} {ct lo:Nat} {r:AV} {u:yf} {bs:List Nat} (hh:aT O m S w H cH) (hl:cY (fb hp ct r).2.1 H) (fU:(fb hp ct r).2.2<=cH) (hn:∀id,ct<=id->id<(fb hp ct r).2.2->m id=none)
  (hr:gO O.af S w lo r u bs) (bf:O.w0.heap.size<=lo) (nI:∀j q,m j=some q->q.b∉bs):
  ∃m' S',aT O m' S' w H cH/\du m m'/\(∀id p,m' id=some p->m id=some p\/(ct<=id/\id<(fb hp ct r).2.2/\p.b∈bs))/\ah O.af m' S' w (fb hp ct r).1 u/\(∀b,S b->S' b)/\(∀b,S' b->S b\/b∈bs):=by
 have aP:fA S w w:=fun _ _=>rfl
 cases r with
 | bt ex sz n cs=>
  simp only [fb] at hl fU hn;obtain ⟨b,o,c,arr,t,rfl,rfl,h1,h2,h3,h4,h5,h6,h7,h8,h9⟩:=hr;have bJ:m ct=none:=hn ct (yo _) (Nat.lt_succ_self _);have azG:b<w.heap.size:=(xm.1 h5).1;have nG:fh O (fj m ct ⟨b,o,c*sz,sz⟩) S w ct (.cells true true ex sz cs):=by
   refine ⟨_,arr,t,dZ,h5,rfl,?_,h7,fun hx=>?_,Bu (fun _ h=>h) aP cs b o h9 rfl h8,fun _=>h9,fun _=>h4,by simp⟩
   ·show cs.length<=c*sz
    rw [h6];exact yT _ h1
   ·grind
  obtain ⟨S',k1,k2,k3⟩:=apJ (p:=⟨b,o,c*sz,sz⟩) hh bJ (by omega) azG (by show _<=b;omega) h4 (fun j q hq e=>nI j q hq (by rw [e];simp)) (fun o' kX=>by
   obtain ⟨o'',g1,g2⟩:=hl ct (.cells true true ex sz cs) (by rw [gL];simp)
   rw [kX] at g1;injection g1 with g1
   subst g1
   exact ZW (p:=⟨b,o,c*sz,sz⟩) g2 dZ nG (by simp [iN]))
  refine ⟨_,S',k1,jM bJ,fun id p ap=>?_,?_,k2,fun b' cC=>(k3 b' cC).imp (fun h=>h) (fun h=>by rw [h];simp)⟩
  ·by_cases hc:id=ct
   ·subst hc;rw [dZ] at ap;injection ap with ap
    subst ap;exact .inr ⟨yo _,by simp [fb],by simp⟩
   ·rw [dY hc] at ap;exact .inl ap
  ·simp only [fb,ah];exact ⟨_,c,dZ,by simp,h1,by simp⟩
 | _=>
  exact ⟨m,S,hh,du.refl,fun _ _ h=> .inl h,pE (fun _ h=>h) aP _ _ hr.2.2 hr.2.1,fun _ h=>h,fun _ h=> .inl h⟩
def Hr {hp:Hp} {ct:Nat} {r:AV} (hf:∀id o,aB hp id=some o->id<ct):∀id o,aB (fb hp ct r).2.1 id=some o->id<(fb hp ct r).2.2:=by
 intro id o h;cases r<;>simp only [fb] at h ⊢<;>try exact hf id o h
 rw [gL] at h
 grind
def LI:∀{vs:List AV} {hp:Hp} {ct:Nat},(∀id o,aB hp id=some o->id<ct)->∀id o,aB hp id=some o->aB (ji hp ct vs).2.1 id=some o
 | [],hp,ct,_,id,o,h=>by simpa [ji] using h
 | v::r,hp,ct,hf,id,o,h=>by
  exact LI (Hr hf) id o (QP hf id o h)
def acT {lo:Nat} (bf:O.w0.heap.size<=lo):∀{vs:List AV} {us:List yf} {bs:List Nat} {hp:Hp} {ct:Nat} {m:Mp} {S:Nat->Prop},aT O m S w H cH->cY (ji hp ct vs).2.1 H->(ji hp ct vs).2.2<=cH->
  (∀id o,aB hp id=some o->id<ct)->(∀id,ct<=id->id<(ji hp ct vs).2.2->m id=none)->
  jW O.af S w lo vs us bs->bs.Nodup->(∀j q,m j=some q->q.b∉bs)->
  ∃m' S',aT O m' S' w H cH/\du m m'/\(∀id p,m' id=some p->m id=some p\/(ct<=id/\id<(ji hp ct vs).2.2/\p.b∈bs))/\az O.af m' S' w (ji hp ct vs).1 us/\(∀b,S b->S' b)/\(∀b,S' b->S b\/b∈bs)
 | [],us,bs,hp,ct,m,S,hh,hl,fU,hf,hn,hr,kZ,nI=>by
  simp only [jW] at hr;exact ⟨m,S,hh,du.refl,fun _ _ h=> .inl h,by simp only [ji,az];exact hr.1,fun _ h=>h,fun _ h=> .inl h⟩
 | v::r,us,bs,hp,ct,m,S,hh,hl,fU,hf,hn,hr,kZ,nI=>by
  simp only [jW] at hr;obtain ⟨u,t,b1,b2,rfl,rfl,h1,h2⟩:=hr;simp only [ji] at hl fU hn ⊢;have dW:=LF (hp:=hp) (ct:=ct) (r:=v);have rI:=LH (vs:=r) (hp:=(fb hp ct v).2.1) (ct:=(fb hp ct v).2.2);rw [List.nodup_append] at kZ;obtain ⟨m1,S1,k1,k2,k3,k4,k5,k6⟩:=acS (hp:=hp) (ct:=ct) (lo:=lo) hh ((fun id o h=>hl id o (LI (Hr hf) id o h))) (by omega) (fun id g1 g2=>hn id g1 (by omega)) h1 bf
   (fun j q hq hb=>nI j q hq (by simp [hb]))
  have Yc:jW O.af S1 w lo r t b2:=by
   clear k4;have Si:∀b,S1 b->S b\/b∈b1:=k6;have hd:∀b,b∈b2->b∉b1:=fun b hb mi=>kZ.2.2 b mi b hb rfl
   have one:∀{v:AV} {u:yf} {bb:List Nat},(∀b,b∈bb->b∉b1)->gO O.af S w lo v u bb->gO O.af S1 w lo v u bb:=by
    intro v u bb rF h
    cases v with
    | bt ex sz n cs=>
     simp only [gO] at h ⊢;obtain ⟨b,o,c,arr,tt,rfl,rfl,g1,g2,g3,g4,g5,g6,g7,g8,g9⟩:=h;exact ⟨b,o,c,arr,tt,rfl,rfl,g1,g2,g3,fun hs=>(Si b hs).elim g4 (rF b (by simp)),g5,g6,g7,Bu k5 (fun _ _=>rfl) cs b o g9 rfl g8,g9⟩
    | _=>simp only [gO] at h ⊢;exact ⟨h.1,pE k5 (fun _ _=>rfl) _ _ h.2.2 h.2.1,h.2.2⟩
   clear k1 k2 k3 hl fU hn nI kZ;revert hd h2;generalize b2=bb
   induction r generalizing t bb with
   | nil=>intro h2 hd;simpa only [jW] using h2
   | cons v' r ih=>
    intro h2 hd;simp only [jW] at h2 ⊢;obtain ⟨u',t',c1,c2,rfl,rfl,g1,g2⟩:=h2
    exact ⟨u',t',c1,c2,rfl,rfl,one (fun b hb=>hd b (by simp [hb])) g1,ih _ (by
     have:=LH (vs:=r) (hp:=(fb hp ct v).2.1) (ct:=(fb hp ct v).2.2)
     exact this) _ g2 (fun b hb=>hd b (by simp [hb]))⟩
  obtain ⟨m2,S2,g1,g2,g3,g4,g5,g6⟩:=acT bf (vs:=r) (us:=t) (bs:=b2) (m:=m1) (S:=S1) k1 hl fU (Hr hf) (fun id q1 q2=>by
   cases hq:m1 id with
   | none=>rfl
   | some p=>
    rcases k3 id p hq with h | ⟨_,h,_⟩
    ·rw [hn id (by omega) q2] at h;cases h
    ·omega) Yc kZ.2.1 (fun j q hq hb=>by
     rcases k3 j q hq with h | ⟨_,_,h⟩
     ·exact nI j q h (by simp [hb])
     ·exact kZ.2.2 q.b h q.b hb rfl)
  refine ⟨m2,S2,g1,k2.trans g2,fun id p ap=>?_,?_,fun b hb=>g5 b (k5 b hb),fun b hb=>?_⟩
  ·rcases g3 id p ap with h | ⟨a1,a2,a3⟩
   ·rcases k3 id p h with h | ⟨a1,a2,a3⟩
    ·exact .inl h
    ·exact .inr ⟨a1,by omega,by simp [a3]⟩
   ·exact .inr ⟨by omega,a2,by simp [a3]⟩
  ·simp only [az];exact ⟨u,t,rfl,lB g2 g5 (fun _ _=>rfl) _ _ k4,g4⟩
  ·rcases g6 b hb with h | h
   ·exact (k6 b h).imp (fun h=>h) (fun h=>by simp [h])
   ·exact .inr (by simp [h])
def at5 {hp:Hp} {ct lo:Nat} {r:AV} {u:yf} (hh:aT O m S w H cH) (hl:cY (own hp ct r).2.1 H) (fU:(own hp ct r).2.2<=cH) (hf:∀id o,aB hp id=some o->id<ct)
  (hn:∀id,ct<=id->id<(own hp ct r).2.2->m id=none) (hr:mI O.af S w lo r u) (bf:O.w0.heap.size<=lo) (JL:∀j q,m j=some q->q.b<lo):
  ∃m' S',aT O m' S' w H cH/\du m m'/\(∀id p,m' id=some p->m id=some p\/(ct<=id/\id<(own hp ct r).2.2/\lo<=p.b))/\ah O.af m' S' w (own hp ct r).1 u/\(∀b,S b->S' b)/\(∀b,S' b->S b\/lo<=b):=by
 have one:∀(r:AV) (bs:List Nat),own hp ct r=fb hp ct r->gO O.af S w lo r u bs->cY (own hp ct r).2.1 H->(own hp ct r).2.2<=cH->(∀id,ct<=id->id<(own hp ct r).2.2->m id=none)->
   ∃m' S',aT O m' S' w H cH/\du m m'/\(∀id p,m' id=some p->m id=some p\/(ct<=id/\id<(own hp ct r).2.2/\lo<=p.b))/\ah O.af m' S' w (own hp ct r).1 u/\(∀b,S b->S' b)/\(∀b,S' b->S b\/lo<=b):=by
  intro r bs he hr hl fU hn;rw [he] at hl fU hn ⊢;have Ci:=QN hr;obtain ⟨m',S',k1,k2,k3,k4,k5,k6⟩:=acS hh hl fU hn hr bf (fun j q hq hb=>by have:=JL j q hq;have:=(Ci _ hb).1;omega)
  exact ⟨m',S',k1,k2,fun id p h=>(k3 id p h).imp (fun h=>h) (fun h=>⟨h.1,h.2.1,(Ci _ h.2.2).1⟩),k4,k5,fun b hb=>(k6 b hb).imp (fun h=>h) (fun h=>(Ci _ h).1)⟩
 cases r with
 | ae vs=>
  simp only [own] at hl fU hn ⊢;simp only [mI] at hr;obtain ⟨us,bs,rfl,h1,h2⟩:=hr;have Ci:=QO h1;obtain ⟨m',S',k1,k2,k3,k4,k5,k6⟩:=acT bf hh hl fU hf hn h1 h2 (fun j q hq hb=>by have:=JL j q hq;have:=(Ci _ hb).1;omega)
  exact ⟨m',S',k1,k2,fun id p h=>(k3 id p h).imp (fun h=>h) (fun h=>⟨h.1,h.2.1,(Ci _ h.2.2).1⟩),by simp only [ah];exact ⟨us,rfl,k4⟩,k5,fun b hb=>(k6 b hb).imp (fun h=>h) (fun h=>(Ci _ h).1)⟩
 | _=>
  simp only [mI] at hr;obtain ⟨bs,hr⟩:=hr;exact one _ bs rfl hr hl fU hn
end
end
section
open Go
section
variable {O:bl} {m m':Mp} {S:Nat->Prop} {w:yh} {f:Nat->Option Nat}
def Ec (f:Nat->Option Nat) (m m':Mp):Prop:=∀id j,f id=some j->m' j=m id
mutual
def acU {af:Nat->Nat} (hf:Ec f m m'):∀(v:AV) (u:yf),ah af m S w v u->ah af m' S w (b5 f v) u
 | .int _ _,_,h | .bool _,_,h | .bM _ _,_,h | .str _,_,h | .jU,_,h | .aa,_,h | .iy,_,h | .jy,_,h | .undef,_,h=>by
  simpa only [b5,ah] using h
 | .ptr id o,u,h=>by
  simp only [b5]
  cases hi:f id with
  | none=>simp only [ah]
  | some j=>
   simp only [ah] at h ⊢;rw [hf id j hi];exact h
 | .bZ cs,u,h=>by
  simp only [b5];exact pE (fun _ h=>h) (fun _ _=>rfl) _ _ (by simp [aZ]) h
 | .ai ex n cs,u,h=>by
  simp only [b5];exact pE (fun _ h=>h) (fun _ _=>rfl) _ _ (by simp [aZ]) h
 | .bt _ _ _ _,u,h=>by simp only [ah] at h
 | .aC id o n,u,h=>by
  simp only [b5]
  cases hi:f id with
  | none=>simp only [ah]
  | some j=>
   simp only [ah] at h ⊢;rw [hf id j hi];exact h
 | .fn (.f g) first cap,u,h=>by
  simp only [b5,ah] at h ⊢;obtain ⟨fi,ca,h1,h2,h3⟩:=h;exact ⟨fi,ca,h1,zS hf first _ h2,zS hf cap _ h3⟩
 | .fn (.y l) first cap,u,h=>by
  simp only [b5]
  cases hi:f l with
  | none=>simp only [ah]
  | some j=>
   simp only [ah] at h ⊢;rw [hf l j hi];exact h
 | .map id,u,h=>by
  simp only [b5]
  cases hi:f id with
  | none=>simp only [ah]
  | some j=>
   simp only [ah] at h ⊢;rw [hf id j hi];exact h
 | .iV ks vs,u,h=>by
  simp only [b5];exact pE (fun _ h=>h) (fun _ _=>rfl) _ _ (by simp [aZ]) h
 | .it id,u,h=>by
  simp only [b5]
  cases hi:f id with
  | none=>simp only [ah]
  | some j=>
   simp only [ah] at h ⊢;rw [hf id j hi];exact h
 | .agg cs,u,h=>by
  simp only [b5,ah] at h ⊢;obtain ⟨xs,h1,h2⟩:=h;exact ⟨xs,h1,zS hf cs _ h2⟩
 | .ae cs,u,h=>by
  simp only [b5,ah] at h ⊢;obtain ⟨xs,h1,h2⟩:=h;exact ⟨xs,h1,zS hf cs _ h2⟩
def zS {af:Nat->Nat} (hf:Ec f m m'):∀(vs:List AV) (us:List yf),az af m S w vs us->az af m' S w (fq f vs) us
 | [],us,h=>by simpa only [fq,az] using h
 | v::r,us,h=>by
  simp only [fq,az] at h ⊢;obtain ⟨u,t,h1,h2,h3⟩:=h;exact ⟨u,t,h1,acU hf v u h2,zS hf r t h3⟩
end
def anT {af:Nat->Nat} (hf:Ec f m m') {cs:List AV} {b o:Nat} (h:bP af m S w cs b o):bP af m' S w (fq f cs) b o:=by
 obtain ⟨us,h1,_,h3⟩:=rY cs b o h;exact Dx _ us o (zS hf cs us h1) h3
def Ql:∀cs:List AV,(fq f cs).length=cs.length
 | []=>rfl
 | c::r=>by simp [fq,Ql r]
def abR:∀(tm:Env) (i:Nat),aj (jV f tm) i=b5 f (aj tm i)
 | [],i=>by simp [jV,aj,b5]
 | (j,v)::r,i=>by
  simp only [jV,aj]
  cases yx j i with
  | true=>rfl
  | false=>exact abR r i
def aa4 (tm:Env) (i:Nat):∀live:List Nat,aj (dN tm live) i=aj tm i\/aj (dN tm live) i= .undef
 | []=> .inr rfl
 | j::r=>by
  simp only [dN,aj]
  cases hb:yx j i with
  | true=>rw [ym hb];exact .inl rfl
  | false=>exact aa4 tm i r
def abS {tm:Env} {tmps:Array yf} (hf:Ec f m m') (h:b7 O m S w tm tmps):b7 O m' S w (jV f tm) tmps:=fun i=>by
 rw [abR];exact acU hf _ _ (h i)
def apK {id j:Nat} {o:Obj} {p:Pl} (hf:Ec f m m') (hm:m id=some p) (hj:m' j=some p) (h:fh O m S w id o):fh O m' S w j (kN f o):=by
 cases o with
 | cells rw pu ex sz cs=>
  obtain ⟨q,arr,t,h1,h2,h3,h4,h5,h6,h7,h8,h9,ig⟩:=h;rw [hm] at h1;injection h1 with h1;subst h1
  cases pu with
  | true=>exact ⟨p,arr,t,hj,h2,h3,h4,h5,h6,Bu (fun _ h=>h) (fun _ _=>rfl) _ _ _ (h8 rfl) rfl h7,h8,h9,ig⟩
  | false=>exact ⟨p,arr,t,hj,h2,h3,by rw [yS,Ql];exact h4,h5,by rw [yS,Ql];exact h6,anT hf h7,by simp,h9,ig⟩
 | mp rw ks vs=>
  obtain ⟨q,es,clock,h1,h2,h3,h4,h5,h6⟩:=h;rw [hm] at h1;injection h1 with h1;subst h1
  exact ⟨p,es,clock,hj,h2,zS hf _ _ h3,zS hf _ _ h4,h5,h6⟩
 | si s pos=>
  obtain ⟨q,t,h1,h2,h3,h4⟩:=h;rw [hm] at h1;injection h1 with h1;subst h1
  exact ⟨p,t,hj,h2,h3,h4⟩
 | lp tm ps cJ body st pe=>
  obtain ⟨q,l,hi,h1,h2,h3,h4,h5,h6,h7,h8⟩:=h;rw [hm] at h1;injection h1 with h1;subst h1
  exact ⟨p,l,hi,hj,h2,h3,h4,h5,h6,abS hf h7,h8⟩
def aa5 {i:Nat}:∀{l:List Nat} {k j:Nat},lS i l k=some j->k<=j/\l[j-k]? =some i
 | [],k,j,h=>by simp [lS] at h
 | x::r,k,j,h=>by
  simp only [lS] at h
  cases hb:yx x i with
  | true=>
   simp_all
  | false=>
   rw [hb] at h;obtain ⟨h1,h2⟩:=aa5 h
   grind
def sf {a b:Nat}:yP a b=true↔a<b:=by simp_all
def KO {hp:Hp} {j:Nat} {o':Obj}:∀{l:List Nat} {k:Nat} {acc:Hp},aB (jQ hp f l k acc) j=some o'->
  (∃i id o,l[i]? =some id/\j=k+i/\aB hp id=some o/\o'=kN f o)\/aB acc j=some o'
 | [],k,acc,h=> .inr h
 | x::r,k,acc,h=>by
  simp only [jQ] at h
  cases hx:aB hp x with
  | none=>
   simp only [hx] at h;rcases KO h with ⟨i,id,o,h1,h2,h3,h4⟩ | h
   ·exact .inl ⟨i+1,id,o,by simpa using h1,by omega,h3,h4⟩
   ·grind
  | some o=>
   simp only [hx] at h;rcases KO h with ⟨i,id,o,h1,h2,h3,h4⟩ | h
   ·exact .inl ⟨i+1,id,o,by simpa using h1,by omega,h3,h4⟩
   ·rw [gL] at h;by_cases hc:k=j
    ·simp only [hc,xA,yd] at h;exact .inl ⟨0,x,o,by simp,by omega,hx,h.symm⟩
    ·grind
def KP {base:Nat} {j:Nat} {o':Obj}:∀{hp:Hp},aB (lO base f hp) j=some o'->j<base/\∃o,aB hp j=some o/\o'=kN f o
 | [],h=>by simp [lO,aB] at h
 | (i,q)::r,h=>by
  simp only [lO] at h
  cases hb:yP i base with
  | true=>
   rw [hb] at h;simp only [yB] at h;rw [gL] at h;by_cases hc:i=j
   ·simp only [hc,xA,yd] at h;exact ⟨by rw [<-hc];exact sf.1 hb,q,by rw [gL];simp [hc],h.symm⟩
   ·simp only [hc,xd] at h;obtain ⟨h1,o,h2,h3⟩:=KP h;exact ⟨h1,o,by rw [gL];simp [hc,h2],h3⟩
  | false=>
   rw [hb] at h;obtain ⟨h1,o,h2,h3⟩:=KP h;have hc:¬i=j:=fun e=>by
    have:=sf.2 h1
    grind
   exact ⟨h1,o,by rw [gL];simp [hc,h2],h3⟩
def oD (m:Mp) (base:Nat) (seen:List Nat):Mp:=fun j=>
 if j<base then m j else match seen[j-base]? with
  | some id=>if jP base seen id=some j then m id else none
  | none=>none
def P5 {base:Nat} {seen:List Nat} {j:Nat} {p:Pl} (h:oD m base seen j=some p):∃id,jP base seen id=some j/\m id=some p/\(j<base->id=j):=by
 unfold oD at h
 split at h
 ·rename_i hj;exact ⟨j,by simp [jP,sf.2 hj],h,fun _=>rfl⟩
 ·grind
def apL {base:Nat} {seen:List Nat}:Ec (jP base seen) m (oD m base seen):=by
 intro id j h;have h0:=h;unfold jP at h
 cases hb:yP id base with
 | true=>
  rw [hb] at h;simp only [yB,yd] at h;subst h;simp [oD,sf.1 hb]
 | false=>
  rw [hb] at h;obtain ⟨h1,h2⟩:=aa5 h
  have:¬j<base:=by omega
  simp only [oD,this,xd,h2,h0,xA]
def PM {s:St} {tmps:Array yf} {live:List Nat} (ht:b7 O m S w s.tm tmps) (hh:aT O m S w s.hp s.ct) (hb:s.base<=s.ct):
  ∃m',b7 O m' S w (aQ live s).tm tmps/\aT O m' S w (aQ live s).hp (aQ live s).ct/\(aQ live s).base=s.base/\s.base<=(aQ live s).ct/\b8 m S w s.hp m' S w (aQ live s).hp s.base:=by
 simp only [aQ];generalize ahb:reach s.hp s.base 100000 (iR (dN s.tm live)++iM s.base s.hp) []=seen;have hr:=apL (m:=m) (base:=s.base) (seen:=seen);have aW:∀j p,oD m s.base seen j=some p->j<s.base+seen.length:=by
  intro j p h;unfold oD at h
  grind
 have back:∀j o' p,aB (jQ s.hp (jP s.base seen) seen s.base (lO s.base (jP s.base seen) s.hp)) j=some o'->oD m s.base seen j=some p->
   ∃id o,jP s.base seen id=some j/\aB s.hp id=some o/\m id=some p/\o'=kN (jP s.base seen) o:=by
  intro j o' p ho hm;obtain ⟨id,h1,h2,h3⟩:=P5 hm;rcases KO ho with ⟨i,Yd,o,g1,g2,g3,g4⟩ | ho
  ·have hj:¬j<s.base:=by omega
   have:oD m s.base seen j=if jP s.base seen Yd=some j then m Yd else none:=by
    simp only [oD,hj,xd,show j-s.base=i by omega,g1]
   grind
  ·obtain ⟨g1,o,g2,g3⟩:=KP ho
   grind
 refine ⟨oD m s.base seen,?_,⟨?_,aW,?_,hh.slt,?_,?_,hh.kP,hh.fB,fun j o' ho=>(by
  rcases KO ho with ⟨i,Yd,o,g1,g2,g3,g4⟩ | ho
  ·grind
  ·have:=(KP ho).1;omega)⟩,by trivial,by omega,⟨rfl,rfl,rfl,yo _,fun _ _ _=>rfl,fun _ h=>h,fun _ _=>rfl,fun _ h=> .inl h,?_,?_,fun _ r h=>⟨r,h⟩⟩⟩
 ·refine abS hr (fun i=>?_);rcases aa4 s.tm i live with h | h
  ·rw [h];exact ht i
  ·rw [h];simp only [ah]
 ·intro j o' p ho hm;obtain ⟨id,o,h1,h2,h3,rfl⟩:=back j o' p ho hm;exact apK hr h3 hm (hh.obj id o p h2 h3)
 ·intro i j oi oj pi pj hi hj bJ fK e;obtain ⟨idi,o1,a1,a2,a3,_⟩:=back i oi pi hi bJ;obtain ⟨idj,o2,b1,b2,b3,_⟩:=back j oj pj hj fK
  have:=hh.inj idi idj o1 o2 pi pj a2 b2 a3 b3 e
  grind
 ·intro j p hm;obtain ⟨id,_,h2,_⟩:=P5 hm;exact hh.blt id p h2
 ·intro j p hm;obtain ⟨id,_,h2,_⟩:=P5 hm;exact hh.low id p h2
 ·rintro b ⟨j,o',p,h1,h2,h3⟩;obtain ⟨id,o,_,g2,g3,_⟩:=back j o' p h1 h2;exact .inl ⟨id,o,p,g2,g3,h3⟩
 ·intro id p hid hm;simp [oD,hid,hm]
end
end
section
open Go
section
variable {O:bl} {m:Mp} {S:Nat->Prop} {w:yh} {hp:Hp} {ct:Nat}
def abT (hh:aT O m S w hp ct) (id:Nat):aT O m S w (dU hp id) ct:=by
 have sub:∀i o,aB (dU hp id) i=some o->aB hp i=some o:=fun i o h=>by
  rw [G3] at h
  grind
 exact ⟨fun i o p h hm=>hh.obj i o p (sub i o h) hm,hh.lt,fun i j oi oj pi pj hi hj=>hh.inj i j oi oj pi pj (sub i oi hi) (sub j oj hj),hh.slt,hh.blt,hh.low,hh.kP,hh.fB,fun i o h=>hh.aW i o (sub i o h)⟩
def acV {id b:Nat} (h:dR m (dU hp id) b):dR m hp b:=by
 obtain ⟨i,o,p,h1,h2,h3⟩:=h;rw [G3] at h1;by_cases hc:id=i
 ·grind
 ·simp only [hc,xd] at h1;exact ⟨i,o,p,h1,h2,h3⟩
def ZY (hh:aT O m S w hp ct) {id:Nat} {o:Obj} {p:Pl} (hg:aB hp id=some o) (hm:m id=some p):¬dR m (dU hp id) p.b:=by
 rintro ⟨i,o',q,h1,h2,h3⟩;rw [G3] at h1;by_cases hc:id=i
 ·grind
 ·simp only [hc,xd] at h1;exact hc (hh.inj i id o' o q p h1 hg h2 hm h3).symm
def arJ {ap:Hp} (hd:jt hp ap) {b:Nat} (h:dR m ap b):dR m hp b:=by
 obtain ⟨i,o,p,h1,h2,h3⟩:=h
 have:=hd i
 rw [h1] at this
 cases hq:aB hp i with
 | none=>rw [hq] at this;cases this
 | some q=>exact ⟨i,q,p,hq,h2,h3⟩
def aan {lo:Nat} {v v':AV} {ap:Hp} {n:Nat} (hh:aT O m S w hp ct) (hf:freeze n hp v=some (v',ap)) {u:yf} (hv:ah O.af m S w v u):
  ∃S',aT O m S' w ap ct/\(∀b,S b->S' b)/\(∀b,S' b->S b\/dR m hp b)/\aZ v'=true/\ah O.af eI S' w v' u/\gO O.af S' w lo v' u []:=by
 obtain ⟨h1,h2,h3⟩:=P1 (O:=O) hf;obtain ⟨S',g1,g2,g3⟩:=acM hh h1 (fun id o p ho hm=>by
  have:=h2 id
  rw [ho] at this
  cases hq:aB hp id with
  | none=>rw [hq] at this;cases this
  | some q=>exact ⟨q,rfl⟩) (yo _) (fun id o ho=>(by
  have:=h2 id
  rw [ho] at this
  cases hq:aB hp id with
  | none=>rw [hq] at this;cases this
  | some q=>exact hh.aW id q hq))
 obtain ⟨k1,k2⟩:=h3 ap m S' w ct cY.refl g1;have hr:=k1 u (lB (fun _ _ h=>h) g2 (fun _ _=>rfl) v u hv);have bR:ah O.af eI S' w v' u:=pE (fun _ h=>h) (fun _ _=>rfl) v' u k2 hr;refine ⟨S',g1,g2,g3,k2,bR,?_⟩
 cases v' with
 | bt _ _ _ _=>simp [aZ] at k2
 | _=>exact ⟨rfl,bR,k2⟩
def anU {S':Nat->Prop} {lo:Nat} {v:AV} {u:yf} {bs:List Nat} (hS:∀b,S b->S' b) (hn:∀b,b∈bs->¬S' b) (h:gO O.af S w lo v u bs):gO O.af S' w lo v u bs:=by
 cases v with
 | bt ex sz n cs=>
  obtain ⟨b,o,c,arr,t,rfl,rfl,g1,g2,g3,g4,g5,g6,g7,g8,g9⟩:=h;exact ⟨b,o,c,arr,t,rfl,rfl,g1,g2,g3,hn b (by simp),g5,g6,g7,Bu hS (fun _ _=>rfl) cs b o g9 rfl g8,g9⟩
 | _=>simp only [gO] at h ⊢;exact ⟨h.1,pE hS (fun _ _=>rfl) _ _ h.2.2 h.2.1,h.2.2⟩
def aa6 {lo:Nat} {v v':AV} {ap:Hp} {n:Nat} (hh:aT O m S w hp ct) (hf:od n hp v=some (v',ap)) {u:yf} (hv:ah O.af m S w v u) (bf:∀b,dR m hp b->lo<=b):
  ∃S' bs,aT O m S' w ap ct/\(∀b,S b->S' b)/\(∀b,S' b->S b\/dR m hp b)/\gO O.af S' w lo v' u bs/\bs.Nodup/\(∀b,b∈bs->dR m hp b/\¬dR m ap b)/\(∀b,dR m ap b->dR m hp b):=by
 have frozen:freeze n hp v=some (v',ap)->∃S' bs,aT O m S' w ap ct/\(∀b,S b->S' b)/\(∀b,S' b->S b\/dR m hp b)/\gO O.af S' w lo v' u bs/\bs.Nodup/\(∀b,b∈bs->dR m hp b/\¬dR m ap b)/\(∀b,dR m ap b->dR m hp b):=by
  intro hz;obtain ⟨S',g1,g2,g3,g4,g5,g6⟩:=aan (lo:=lo) hh hz hv
  exact ⟨S',[],g1,g2,g3,g6,by simp,by simp,fun b hb=>arJ (P1 (O:=O) hz).2.1 hb⟩
 unfold od at hf
 split at hf
 ·rename_i id o k
  split at hf
  ·rename_i ex sz cs hg
   cases hc:yF (o+k*sz) cs.length with
   | false=>rw [hc] at hf;cases hf
   | true=>
    rw [hc] at hf;obtain ⟨rfl,rfl⟩:=hf;have hle:=yA hc;obtain ⟨p,c,hm,rfl,h1,h2⟩:=hv;obtain ⟨p',arr,t,g1,g2,g3,g4,g5,g6,g7,g8,g9,g10⟩:=hh.obj id _ _ hg hm;rw [hm] at g1;injection g1 with g1
    subst g1;rw [g3] at h2;refine ⟨S,[p.b],abT hh id,fun _ h=>h,fun _ h=> .inl h,?_,by simp,?_,fun b hb=>acV hb⟩
    ·refine ⟨p.b,p.o+o,c,arr,t,rfl,rfl,h1,?_,bf _ (HF hg hm),g9 rfl,g2,?_,by omega,?_,Bt _ (zM _ _ (g8 rfl))⟩
     ·intro hx;simp only [ye] at hx;have e1:=ym hx.2;have e2:=sf.1 hx.1.2;have e3:=g6 hx.1.1
      have:c*sz=k*sz:=by omega
      exact Nat.eq_of_mul_eq_mul_right e2 this
     ·simp only [slice,yI,xT];omega
     ·exact Bu (fun _ h=>h) (fun _ _=>rfl) _ _ _ (Bt _ (zM _ _ (g8 rfl))) rfl (Bv _ _ _ _ (p9 _ _ _ _ g7))
    ·intro b hb;simp only [List.mem_singleton] at hb;subst hb;exact ⟨HF hg hm,ZY hh hg hm⟩
  ·grind
 ·grind
def aao {lo n:Nat}:∀{vs dQ:List AV} {us:List yf} {hp ap:Hp} {S:Nat->Prop},aT O m S w hp ct->r9 n hp vs=some (dQ,ap)->az O.af m S w vs us->(∀b,dR m hp b->lo<=b)->
  ∃S' bs,(∀b,S b->S' b)/\(∀b,S' b->S b\/dR m hp b)/\jW O.af S' w lo dQ us bs/\bs.Nodup/\(∀b,b∈bs->dR m hp b)/\(∀b,S' b->b<w.heap.size)
 | [],dQ,us,hp,ap,S,hh,hf,hv,bf=>by
  obtain ⟨rfl,rfl⟩:=hf;exact ⟨S,[],fun _ h=>h,fun _ h=> .inl h,by simp only [jW];exact ⟨hv,by trivial⟩,by simp,by simp,hh.slt⟩
 | v::r,dQ,us,hp,ap,S,hh,hf,hv,bf=>by
  simp only [r9] at hf
  cases h1:od n hp v with
  | none=>simp [h1] at hf
  | some q=>
   obtain ⟨v1,bi⟩:=q;simp only [h1] at hf
   cases h2:r9 n bi r with
   | none=>simp [h2] at hf
   | some q2=>
    simp only [h2,yd,yj] at hf;obtain ⟨rfl,rfl⟩:=hf;obtain ⟨u,t,rfl,eJ,dt⟩:=hv;obtain ⟨S1,b1,k1,k2,k3,k4,k5,k6,k7⟩:=aa6 (lo:=lo) hh h1 eJ bf;obtain ⟨S2,b2,g1,g2,g3,g4,g5,g6⟩:=aao (us:=t) k1 h2 (gK (fun _ _ h=>h) k2 (fun _ _=>rfl) _ _ dt) (fun b hb=>bf b (k7 b hb));have Si:∀b,b∈b1->¬S2 b:=by
     intro b hb hs;rcases g2 b hs with h | h
     ·cases v1 with
      | bt ex sz n cs=>
       simp only [gO] at k4
       grind
      | _=>simp only [gO] at k4;rw [k4.1] at hb;cases hb
     ·grind
    refine ⟨S2,b1++b2,fun b hb=>g1 b (k2 b hb),fun b hb=>?_,?_,?_,?_,g6⟩
    ·grind
    ·simp only [jW];exact ⟨u,t,b1,b2,rfl,rfl,anU g1 Si k4,g3⟩
    ·grind
    ·grind
def P6 {lo:Nat}:∀{cs:List AV} {us:List yf},aG cs=true->az O.af eI S w cs us->jW O.af S w lo cs us []
 | [],us,_,h=>by simp only [az] at h;exact ⟨h,by trivial⟩
 | c::r,us,hp,h=>by
  obtain ⟨u,t,rfl,h1,h2⟩:=h;simp only [aG,ye] at hp;refine ⟨u,t,[],[],rfl,rfl,?_,P6 hp.2 h2⟩
  cases c with
  | bt _ _ _ _=>simp [aZ] at hp
  | _=>exact ⟨rfl,h1,hp.1⟩
def anV {lo:Nat} {v r:AV} {u:yf} (hh:aT O m S w hp ct) (hr:result hp v=some r) (hv:ah O.af m S w v u) (bf:∀b,dR m hp b->lo<=b):
  ∃S',(∀b,S b->S' b)/\(∀b,S' b->S b\/dR m hp b)/\(∀b,S' b->b<w.heap.size)/\mI O.af S' w lo r u:=by
 unfold result at hr
 split at hr
 ·rename_i vs
  split at hr
  ·cases h1:r9 deep hp vs with
   | none=>simp [h1] at hr
   | some q=>
    simp only [h1,yd] at hr;subst hr;obtain ⟨us,rfl,hv⟩:=hv;obtain ⟨S',bs,g1,g2,g3,g4,g5,g6⟩:=aao (lo:=lo) hh h1 hv bf;exact ⟨S',g1,g2,g6,us,bs,rfl,g3,g4⟩
  ·cases h1:freeze deep hp (.ae vs) with
   | none=>simp [h1] at hr
   | some q=>
    obtain ⟨v',ap⟩:=q;simp only [h1,yd] at hr;subst hr;obtain ⟨S',g1,g2,g3,g4,g5,g6⟩:=aan (lo:=lo) hh h1 hv;refine ⟨S',g2,g3,g1.slt,?_⟩
    cases v' with
    | ae cs=>
     obtain ⟨xs,rfl,g5⟩:=g5;exact ⟨xs,[],rfl,P6 (by simpa [aZ] using g4) g5,by simp⟩
    | _=>exact ⟨[],g6⟩
 ·rename_i Ov
  cases h1:od deep hp v with
  | none=>simp [h1] at hr
  | some q=>
   obtain ⟨v',ap⟩:=q;simp only [h1,yd] at hr;subst hr;obtain ⟨S',bs,g1,g2,g3,g4,_⟩:=aa6 (lo:=lo) hh h1 hv bf;refine ⟨S',g2,g3,g1.slt,?_⟩
   cases v' with
   | ae cs=>
    obtain ⟨rfl,h2,h3⟩:=g4;obtain ⟨xs,rfl,h2⟩:=h2;exact ⟨xs,[],rfl,P6 (by simpa [aZ] using h3) h2,by simp⟩
   | _=>exact ⟨bs,g4⟩
end
end
end VE
