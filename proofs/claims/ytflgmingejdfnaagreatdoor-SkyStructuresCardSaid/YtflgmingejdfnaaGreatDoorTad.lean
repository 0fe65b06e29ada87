import Derived.Laws.CopyOwn
import Derived.Test.YtflgmingejdfnaaGreatDoorTac
set_option linter.all false
set_option maxRecDepth 100000
open Array renaming length_toList→wI
open Bool renaming and_eq_true→ye,false_eq_true→yq
open Go renaming Loop→vz,MapEntry→vB,Next→tP,Obj→yao,Oper→yI,Operand→y8,Program→yJ,TypeDesc→wq,TypeId→yj,TypeInfo→yaZ,Value→yd,World→yf,sizeOf→vl
open List renaming append_assoc→y7,cons_append→yH,eq_nil_of_length_eq_zero→yB,ext_getElem?→tj,getElem?_append_left→xy,getElem?_append_right→xh,getElem?_drop→uZ,getElem?_take_of_lt→wX,getElem?_toArray→uA,length_append→yW,length_drop→wv,length_take→yN,map_cons→yP,mem_append→xT,size_toArray→vL,take_of_length_le→yF
open Nat renaming add_mul→w7,add_zero→xH,beq→yk,beq_refl→y9,ble→yy,blt→yA,eq_of_beq_eq_true→yh,eq_zero_or_pos→xv,le_of_ble_eq_true→yo,le_refl→yC,min_le_left→tW,mul_le_mul_right→xo,zero_add→yp
open Option renaming isSome_none→uG
open Option.some renaming injEq→yb
open Prod.mk renaming injEq→yg
open UInt8 renaming toNat→yK
namespace VE
section
open Go
section
variable {O:a8} {H:Hint} {m:Mp} {S:Nat->Prop} {w:yf} {tm:Env} {a:Act} {hp:Hp} {ct:Nat}
structure One (w w':yf) (g:Nat):Prop where
 os:w'.os=w.os
 tape:w'.tape=w.tape
 output:w'.output=w.output
 size:w'.heap.size=w.heap.size
 other:∀b,b≠g->w'.heap[b]? =w.heap[b]?
def Ha (w:yf) (g:Nat) (cs:Array yd):One w (w.setRow g cs) g:=
 ⟨rfl,rfl,rfl,by simp,fun b hb=>setRow_other w g b cs hb⟩
def A9 {id:Nat} {o:Obj} {p:Pl} (h:ak hp id=some o) (hm:m id=some p):da m hp p.b:=⟨id,o,p,h,hm,rfl⟩
def aaw {id:Nat} {o':Obj} {b:Nat} (h:da m (aY hp id o') b):da m hp b:=by
 obtain ⟨i,o,p,h1,h2,h3⟩:=h;rw [mb] at h1;by_cases hi:id=i
 ·subst hi
  cases hq:ak hp id with
  | none=>simp [hq] at h1
  | some q=>exact ⟨id,q,p,hq,h2,h3⟩
 ·simp only [hi,yM] at h1;exact ⟨i,o,p,h1,h2,h3⟩
def AT (hh:aJ O m S w hp ct) {id:Nat} {o o':Obj} {p:Pl} {w':yf} (ho:ak hp id=some o) (hm:m id=some p) (hn:¬S p.b) (hw:One w w' p.b) (h':dR O m S w' id o') (hk:∀r:vz,w.heap[p.b]? =some (.loop r)->∃r':vz,w'.heap[p.b]? =some (.loop r')):
  aJ O m S w' (aY hp id o') ct/\bK m S w hp m S w' (aY hp id o') ct:=by
 have aT:ej S w w':=fun b hb=>hw.other b (fun e=>hn (e▸hb))
 refine ⟨⟨?_,hh.lt,?_,?_,?_,hh.low,?_,?_,fun i q hq=>(by
  rw [mb] at hq;by_cases hc:id=i
  ·subst hc;exact hh.aV _ _ ho
  ·simp only [hc,yM] at hq;exact hh.aV _ _ hq)⟩,⟨hw.os,hw.tape,hw.output,by rw [hw.size];exact yC _,?_,fun _ h=>h,fun b hb=>aT b hb,fun b hb=> .inl hb,fun b hb=> .inl (aaw hb),fun _ _ _ h=>h,fun b r hb=>?_⟩⟩
 rotate_right
 ·by_cases hc:b=p.b
  ·subst hc;exact hk r hb
  ·exact ⟨r,(hw.other b hc).trans hb⟩
 ·intro i q pi hi bp;rw [mb] at hi;by_cases hc:id=i
  ·subst hc;simp only [yR,ho,Option.isSome_some] at hi;injection hi with hi
   subst hi;exact h'
  ·simp only [hc,yM] at hi;refine ma (fun _ _ h=>h) (fun _ h=>h) aT (fun q' bI=>?_) (fun _ _ h=>h) (hh.obj i q pi hi bp);exact hw.other _ (fun e=>hc (hh.inj i id q o q' p hi ho bI hm e).symm)
 ·intro i j oi oj pi pj hi hj bp eG e;have key:∀{i:Nat} {oi:Obj},ak (aY hp id o') i=some oi->∃CC,ak hp i=some CC:=by
   intro i oi hi;rw [mb] at hi;by_cases hc:id=i
   ·subst hc;exact ⟨o,ho⟩
   ·simp only [hc,yM] at hi;exact ⟨oi,hi⟩
  obtain ⟨CC,dj⟩:=key hi;obtain ⟨CB,zM⟩:=key hj;exact hh.inj i j CC CB pi pj dj zM bp eG e
 ·intro b hb;rw [hw.size];exact hh.slt b hb
 ·intro i q hq;rw [hw.size];exact hh.blt i q hq
 ·intro b hb
  rw [hw.other b (fun e=>by have:=hh.low id p hm;omega)];exact hh.iK b hb
 ·rw [hw.size];exact hh.eK
 ·intro b _ hb;exact hw.other b (fun e=>hb (e▸A9 ho hm))
def nF (O:a8) (m:Mp) (S:Nat->Prop) (w:yf) (a:Act) (hp:Hp) (ct:Nat) (o:yI) (v:AV) (ai:Hp) (aO:Nat):Prop:=
 ∃n u w' m' S',(execOp a.eval o).run O.P w= .ok n w'/\(n= .value u\/(n= .skip/\u=undef))/\aJ O m' S' w' ai aO/\af O.ae m' S' w' v u/\cE m m'/\bK m S w hp m' S' w' ai ct
def aax {ae:Nat->Nat} {v:AV} {u:yd} (h:af ae m S w v u) (ho:cm v=true):u.oneCell'=true:=by
 cases v with
 | fn f a b=>
  cases f with
  | f g=>simp only [af] at h;obtain ⟨_,_,rfl,_⟩:=h;rfl
  | y l=>simp only [af] at h;obtain ⟨_,_,rfl⟩:=h;rfl
 | int k n=>simp only [af] at h;subst h;rfl
 | bool b=>simp only [af] at h;subst h;rfl
 | cx k n=>simp only [af] at h;subst h;rfl
 | str s=>simp only [af] at h;obtain ⟨_,rfl,_⟩:=h;rfl
 | gW=>simp only [af] at h;subst h;rfl
 | ptr i k=>simp only [af] at h;obtain ⟨_,_,rfl⟩:=h;rfl
 | ay cs=>simp only [af] at h;obtain ⟨_,_,rfl,_⟩:=h;rfl
 | aa=>simp only [af] at h;subst h;rfl
 | aB e n cs=>simp only [af] at h;rcases h with ⟨_,_,_,rfl,_⟩ | ⟨_,rfl,_,_⟩<;>rfl
 | bX _ _ _ _=>simp [cm] at ho
 | au i k n=>simp only [af] at h;obtain ⟨_,_,_,rfl,_⟩:=h;rfl
 | fk=>simp only [af] at h;subst h;rfl
 | gH=>simp only [af] at h;subst h;rfl
 | map i=>simp only [af] at h;obtain ⟨_,_,rfl⟩:=h;rfl
 | gj ks vs=>simp only [af] at h;obtain ⟨_,_,_,rfl,_⟩:=h;rfl
 | it i=>simp only [af] at h;obtain ⟨_,_,rfl⟩:=h;rfl
 | agg cs=>simp [cm] at ho
 | aw cs=>simp [cm] at ho
 | undef=>simp [cm] at ho
def DE {ae:Nat->Nat}:∀{vs:List AV} {us:List yd},an ae m S w vs us->bY vs=true->∀u∈us,u.oneCell'=true
 | [],us,h,_,u,hu=>by simp only [an] at h;subst h;cases hu
 | v::r,us,h,ho,u,hu=>by
  obtain ⟨u',t,rfl,h1,h2⟩:=h;simp only [bY,ye] at ho;rcases List.mem_cons.1 hu with rfl | hu
  ·exact aax h1 ho.1
  ·exact DE h2 ho.2 u hu
def N4 {arr:Array yd} {t:yj} {p:Pl} {cs new:List AV} {vs:List yd} {o:Nat} {S':Nat->Prop} {m':Mp} (hb:w.heap[p.b]? =some (.cells arr t (0,0))) (hr:bC O.ae m S w cs p.b p.o)
  (hv:an O.ae m S w new vs) (hl:o+new.length<=cs.length) (hs:p.o+cs.length<=arr.size) {w':yf} (hm:cE m m') (hS:∀b,S b->S' b) (aT:ej S w w')
  (hw:w'.heap[p.b]? =some (.cells (arr.toList.take (p.o+o)++vs++arr.toList.drop (p.o+o+vs.length)).toArray t (0,0))):bC O.ae m' S' w' (over o new cs) p.b p.o:=by
 obtain ⟨us,h1,h2,h3⟩:=nd cs p.b p.o hr;have hvl:=fU _ _ hv;have h4:an O.ae m S w (over o new cs) (us.take o++vs++us.drop (o+new.length)):=iS (iS (sI o h1) hv) (AL _ h1);refine sK _ _ _ (fb hm hS aT _ _ h4) (fun j u hj=>?_);have BG:∀k u,us[k]? =some u->arr[p.o+k]? =some u:=by
  intro k u hk
  have:=h3 k u hk
  simpa [World.cell?,hb] using this
 simp only [World.cell?,hw,uG,yq,yM];rw [uA];have e1:(arr.toList.take (p.o+o)).length=p.o+o:=by rw [yN,wI];omega
 have e2:(us.take o).length=o:=by rw [yN];omega
 by_cases c1:j<o
 ·have g1:(us.take o++vs++us.drop (o+new.length))[j]? =us[j]? :=by
   rw [y7,xy (by omega),wX c1]
  rw [g1] at hj;rw [y7,xy (by omega),wX (by omega)];simpa using BG j u hj
 ·by_cases c2:j<o+vs.length
  ·have g1:(us.take o++vs++us.drop (o+new.length))[j]? =vs[j-o]? :=by
    rw [y7,xh (by omega),e2,xy (by omega)]
   rw [g1] at hj;rw [y7,xh (by omega),e1,xy (by omega),show p.o+j-(p.o+o)=j-o by omega];exact hj
  ·have g1:(us.take o++vs++us.drop (o+new.length))[j]? =us[j]? :=by
    rw [y7,xh (by omega),e2,xh (by omega),uZ]
    congr 1
    omega
   rw [g1] at hj;rw [y7,xh (by omega),e1,xh (by omega),uZ,show p.o+o+vs.length+(p.o+j-(p.o+o)-vs.length)=p.o+j by omega];simpa using BG j u hj
def DT {o:Nat} {new cs:List AV} (hl:o+new.length<=cs.length):(over o new cs).length=cs.length:=by
 simp only [over,yW,yN,wv];omega
def Mr {o:Nat} {new cs:List AV} (h:az cs=true) (h':az new=true):az (over o new cs)=true:=
 sB (sB (p7 _ h) h') (ou _ _ h)
def acJ {o:yI} {t:yj} {x y:y8} {sz:Nat} {v:AV} {ai:Hp} {aO:Nat} (hH:dY O H) (ht:bM O m S w tm a.tmps) (hh:aJ O m S w hp ct)
  (ho:o.op= .store t x y) (hz:bU O.P t=some sz) (hv:cg tm hp ct (.st sz (aH H x) (aH H y))=some (v,ai,aO)):nF O m S w a hp ct o v ai aO:=by
 simp only [cg] at hv;have rx:=bQ hH ht x;cases hx:aq tm (aH H x)<;>rw [hx] at hv rx<;>simp only [reduceCtorEq] at hv
 rename_i id k;simp only [af] at rx;obtain ⟨p,hm,ex⟩:=rx
 split at hv
 case h_2=>cases hv
 rename_i pu FO z cs hg
 cases hc:(yk (cellsOf (aq tm (aH H y))).length sz&&yy (k+sz) cs.length&&bY (cellsOf (aq tm (aH H y)))) with
 | false=>rw [hc] at hv;cases hv
 | true=>
  rw [hc] at hv;simp only [yi,yb,yg] at hv;obtain ⟨rfl,rfl,rfl⟩:=hv;simp only [ye] at hc;have c1:=yh hc.1.1;have c2:=yo hc.1.2;have ry:=Hn (bQ hH ht y) hc.2;have hl:=fU _ _ ry;obtain ⟨p',arr,t',g1,g2,g3,g4,g5,g6,g7,g8,g9,g10⟩:=hh.obj id _ _ hg hm;rw [hm] at g1;injection g1 with g1
  subst g1;have fm:=DE ry hc.2;have eM:=run_storeCells_at O.P p.b (p.o+k) t' (a.eval y).cells.toList 0 arr w g2 (by rw [hl];omega) fm;simp only [xH] at eM;have ahq:(a.eval y).cells.size=sz:=by simp_all
  have lO:dR O m S (w.setRow p.b (arr.toList.take (p.o+k)++(a.eval y).cells.toList++arr.toList.drop (p.o+k+(a.eval y).cells.toList.length)).toArray) id
    (.cells true (pu&&az (cellsOf (aq tm (aH H y)))) FO z (over k (cellsOf (aq tm (aH H y))) cs)):=by
   refine ⟨p,_,t',hm,setRow_heap w p.b arr _ t' _ g2,g3,by rw [DT (by omega)];exact g4,?_,fun h=>by rw [DT (by omega)];exact g6 h,?_,?_,fun _=>g9 rfl,by simp⟩
   ·grind
   ·exact N4 g2 g7 ry (by omega) (by omega) cE.refl (fun _ h=>h) (fun b hb=>setRow_other w p.b b _ (fun e=>g9 rfl (e▸hb))) (setRow_heap w p.b arr _ t' _ g2)
   ·intro h;simp only [ye] at h;exact Mr (g8 h.1) h.2
  obtain ⟨e1,e2⟩:=AT hh hg hm (g9 rfl) (Ha w p.b _) lO (fun r hr=>by rw [g2] at hr;cases hr);refine ⟨.skip,undef,_,m,S,?_,.inr ⟨rfl,rfl⟩,e1,by simp [af,an,undef],cE.refl,e2⟩;simp only [execOp,ho,Instr.storeAt,ex,Instr.sureAddr,Sem.run_bind,Sem.run_pure,Result.andThen_ok,storeVar,jG hz,ahq,yap,vo,yM];simp [eM]
def Ms {d:wq} {k k':yd} (h:Instr.sameNow d k k'=some true):k=k':=by
 unfold Instr.sameNow at h
 split at h
 ·grind
 ·rename_i p q;simp only [yb] at h;have h2:(p.data==q.data)=true:=by cases p;exact h
  cases p;cases q
  grind
 ·grind
 ·cases h
def sameBits_self {d:wq} {k k':yd} (h:Instr.sameNow d k k'=some true) (n:Nat):Instr.sameBits n k' k=true:=by
 have e:=Ms h;subst e;unfold Instr.sameNow at h
 split at h
 ·simp [Instr.sameBits]
 ·simp only [yb] at h;simp [Instr.sameBits,h]
 ·simp [Instr.sameBits]
 ·cases h
def Put (ae:Nat->Nat) (m:Mp) (S:Nat->Prop) (w:yf) (d:wq) (k x:yd) (es:List vB) (i:Nat) (hJ cZ:List AV):Prop:=
 (Instr.findNow d k es i=some none/\an ae m S w hJ (es.map (·.key)++[k])/\an ae m S w cZ (es.map (·.val)++[x]))\/
 ∃(j:Nat) (e0:vB),Instr.findNow d k es i=some (some (i+j,e0.val))/\es[j]? =some e0/\Instr.sameNow d k e0.key=some true/\an ae m S w hJ (es.map (·.key))/\an ae m S w cZ ((es.map (·.val)).set j x)
def OY {ae:Nat->Nat} {vk vx:AV} {k x:yd} {d:wq} (hk:af ae m S w vk k) (hx:af ae m S w vx x) (hd:fits d vk=true):∀(ks vs:List AV) (es:List vB) (i:Nat) (hJ cZ:List AV),
  an ae m S w ks (es.map (·.key))->an ae m S w vs (es.map (·.val))->oW vk vx ks vs=some (hJ,cZ)->Put ae m S w d k x es i hJ cZ
 | [],[],es,i,hJ,cZ,h1,h2,h=>by
  simp only [an,List.map_eq_nil_iff] at h1;subst h1;obtain ⟨rfl,rfl⟩:=h;exact .inl ⟨rfl,by simp [an,hk],by simp [an,hx]⟩
 | [],_::_,es,i,hJ,cZ,h1,h2,h=>by simp [oW] at h
 | _::_,[],es,i,hJ,cZ,h1,h2,h=>by simp [oW] at h
 | c::ks,v::vs,es,i,hJ,cZ,h1,h2,h=>by
  cases es with
  | nil=>simp [an] at h1
  | cons e es=>
   obtain ⟨u,t,⟨rfl,rfl⟩,hc,FM⟩:=h1;obtain ⟨u',t',⟨rfl,rfl⟩,hv,FN⟩:=h2;simp only [oW] at h
   cases nW:zc vk c with
   | none=>simp [nW] at h
   | some b=>
    have hs:=NZ (d:=d) hk hc nW hd
    cases b with
    | true=>
     simp only [nW,yb,yg] at h;obtain ⟨rfl,rfl⟩:=h;refine .inr ⟨0,e,by simp [Instr.findNow,hs],rfl,hs,?_,?_⟩
     ·simp only [yP,an];exact ⟨_,_,rfl,hc,FM⟩
     ·simp only [yP,List.set_cons_zero,an];exact ⟨_,_,rfl,hx,FN⟩
    | false=>
     simp only [nW] at h
     cases hm:oW vk vx ks vs with
     | none=>simp [hm] at h
     | some q=>
      obtain ⟨k1,v1⟩:=q;simp only [hm,yb,yg] at h;obtain ⟨rfl,rfl⟩:=h;rcases OY hk hx hd ks vs es (i+1) k1 v1 FM FN hm with ⟨g1,g2,g3⟩ | ⟨j,e0,g1,g2,g3,g4,g5⟩
      ·refine .inl ⟨by simp [Instr.findNow,hs,g1],?_,?_⟩
       ·simp only [yP,yH,an];exact ⟨_,_,rfl,hc,g2⟩
       ·simp only [yP,yH,an];exact ⟨_,_,rfl,hv,g3⟩
      ·refine .inr ⟨j+1,e0,?_,by simpa using g2,g3,?_,?_⟩
       ·simp only [Instr.findNow,hs,g1]
        grind
       ·simp only [yP,an];exact ⟨_,_,rfl,hc,g4⟩
       ·simp only [yP,List.set_cons_succ,an];exact ⟨_,_,rfl,hv,g5⟩
def sF (w:yf) (g:Nat) (o:yao):One w {w with heap:=w.heap.setIfInBounds g o} g:=
 ⟨rfl,rfl,rfl,by simp,fun b hb=>by simp [Array.getElem?_setIfInBounds_ne (fun e=>hb e.symm)]⟩
def Dr {g:Nat} {o q:yao} (h:w.heap[g]? =some q):({w with heap:=w.heap.setIfInBounds g o}:yf).heap[g]? =some o:=by grind
def N5 {o:yI} {t kt e:yj} {x k y:y8} {kk:Nat} {v:AV} {ai:Hp} {aO:Nat} (hH:dY O H) (ht:bM O m S w tm a.tmps) (hh:aJ O m S w hp ct)
  (ho:o.op= .mapUpdate t x k y\/o.op= .insert t x k y) (hu:O.P.underlying t=some (.map kt e)) (rQ:VE.keyOf O.P kt=some kk) (hv:cg tm hp ct (.kK kk (aH H x) (aH H k) (aH H y))=some (v,ai,aO)):nF O m S w a hp ct o v ai aO:=by
 simp only [cg] at hv;have rx:=bQ hH ht x;cases hx:aq tm (aH H x)<;>rw [hx] at hv rx<;>simp only [reduceCtorEq] at hv
 rename_i id;simp only [af] at rx;obtain ⟨p,hm,ex⟩:=rx
 split at hv
 case h_2=>cases hv
 rename_i ks vs hg
 cases hc:nk kk (aq tm (aH H k)) with
 | false=>simp [hc] at hv
 | true=>
  simp only [hc,Bool.not_true,yr] at hv
  cases bm:oW (aq tm (aH H k)) (aq tm (aH H y)) ks vs with
  | none=>simp [bm] at hv
  | some q=>
   obtain ⟨hJ,cZ⟩:=q;simp only [bm,yb,yg] at hv;obtain ⟨rfl,rfl,rfl⟩:=hv;obtain ⟨d,lK,gM,Kq⟩:=Mn rQ hc;obtain ⟨p',es,clock,g1,g2,g3,g4,g5,g6⟩:=hh.obj id _ _ hg hm;rw [hm] at g1;injection g1 with g1
   subst g1;have ai4:=OY (d:=d) (bQ hH ht k) (bQ hH ht y) Kq ks vs es.toList 0 hJ cZ g3 g4 bm
   have fin:∀(rT:Array vB) (c':Nat),(Instr.mapUpdate t (a.eval x) (a.eval k) (a.eval y)).run O.P w= .ok () {w with heap:=w.heap.setIfInBounds p.b (.map rT c')}->
     an O.ae m S w hJ (rT.toList.map (·.key))->an O.ae m S w cZ (rT.toList.map (·.val))->nF O m S w a hp ct o (.aw []) (aY hp id (.mp true hJ cZ)) ct:=by
    intro rT c' eM h1 h2
    have aT:ej S w {w with heap:=w.heap.setIfInBounds p.b (.map rT c')}:=fun b hb=>(sF w p.b _).other b (fun e=>g5 rfl (e▸hb))
    have lO:dR O m S {w with heap:=w.heap.setIfInBounds p.b (.map rT c')} id (.mp true hJ cZ):=
     ⟨p,rT,c',hm,Dr g2,fb (fun _ _ h=>h) (fun _ h=>h) aT _ _ h1,fb (fun _ _ h=>h) (fun _ h=>h) aT _ _ h2,fun _=>g5 rfl,by simp⟩
    obtain ⟨e1,e2⟩:=AT hh hg hm (g5 rfl) (sF w p.b _) lO (fun r hr=>by rw [g2] at hr;cases hr);refine ⟨.skip,undef,_,m,S,?_,.inr ⟨rfl,rfl⟩,e1,by simp [af,an,undef],cE.refl,e2⟩;rcases ho with ho | ho<;>simp [execOp,ho,eM]
   have lP:=Dg (P:=O.P) (w:=w) lK gM false (a.eval k);rcases ai4 with ⟨h1,h2,h3⟩ | ⟨j,e0,h1,h2,h3,h4,h5⟩
   ·refine fin (es.push ⟨a.eval k,a.eval y,clock⟩) (clock+1) ?_ (by simpa using h2) (by simpa using h3);rw [ex];simp [Instr.mapUpdate,run_underlying hu,MapKept.run_getObj_map g2,lP,Instr.findKey,run_underlying lK,h1,MapKept.run_setObj_map _ g2]
   ·have hj:es[j]? =some e0:=by simp_all
    simp only [yp] at h1;have Tj:=Ms h3
    refine fin (es.modify j fun e=>{e with key:=a.eval k,val:=a.eval y}) clock ?_ ?_ ?_
    ·rw [ex];have hsb:Instr.sameBits 10000 (a.eval k) (a.eval k)=true:=by have:=sameBits_self h3 10000;rwa [<-Tj] at this
     simp [Instr.mapUpdate,run_underlying hu,MapKept.run_getObj_map g2,lP,Instr.findKey,run_underlying lK,h1,MapKept.run_setObj_map _ g2,hj,Instr.keyThatStays,hsb,Tj.symm]
    ·have:(es.modify j fun e=>{e with key:=a.eval k,val:=a.eval y}).toList.map (·.key)=es.toList.map (·.key):=by
      apply tj
      grind
     grind
    ·have:(es.modify j fun e=>{e with key:=a.eval k,val:=a.eval y}).toList.map (·.val)=(es.toList.map (·.val)).set j (a.eval y):=by
      apply tj
      grind
     grind
def acK (t:ByteArray) (i:Nat):(t.get! i).toNat=(t.data.toList.map yK).getD i 0:=by
 have:t.get! i=t.data[i]! :=by cases t;rfl
 rw [this];by_cases h:i<t.data.size
 ·grind
 ·simp only [Array.getElem!_eq_getD,Array.getD_eq_getD_getElem?,List.getD_eq_getElem?_getD,List.getElem?_map,Array.getElem?_toList];rw [Array.getElem?_eq_none (by omega)];rfl
def YO (t:ByteArray) (i:Nat):decodeL (t.data.toList.map yK) i=Utf8.decode t i:=by
 have eZ:(t.data.toList.map yK).length=t.size:=by simp
 simp only [decodeL,Utf8.decode,acK,eZ]
def aay {o:yI} {x:y8} {v:AV} {ai:Hp} {aO:Nat} (hH:dY O H) (ht:bM O m S w tm a.tmps) (hh:aJ O m S w hp ct)
  (ho:o.op= .next x true) (hv:cg tm hp ct (.kM (aH H x))=some (v,ai,aO)):nF O m S w a hp ct o v ai aO:=by
 simp only [cg] at hv;have rx:=bQ hH ht x;cases hx:aq tm (aH H x)<;>rw [hx] at hv rx<;>simp only [reduceCtorEq] at hv
 rename_i id;simp only [af] at rx;obtain ⟨p,hm,ex⟩:=rx
 split at hv
 case h_2=>cases hv
 rename_i s pos hg;obtain ⟨p',t,g1,g2,g3,g4⟩:=hh.obj id _ _ hg hm;rw [hm] at g1;injection g1 with g1
 subst g1;have ak:(getObj p.b).run O.P w= .ok (.stringIter t pos) w:=by simp [getObj,Sem.run,g2]
 have hlen:s.length=t.size:=by rw [<-g3];simp
 cases hc:yA pos s.length with
 | false=>
  rw [hc] at hv;simp only [yr,yb,yg] at hv;obtain ⟨rfl,rfl,rfl⟩:=hv;have aV:¬pos<t.size:=by
   intro h
   have:yA pos s.length=true:=by simp [yA];omega
   grind
  refine ⟨.value (.tuple #[.bool false]),.tuple #[.bool false],w,m,S,?_,.inl rfl,hh,by simp [af,an],cE.refl,bK.refl⟩;simp [execOp,ho,ex,Instr.next,ak,aV]
 | true=>
  rw [hc] at hv;simp only [yi] at hv;have aV:pos<t.size:=by
   simp_all
  cases Vh:decodeL s pos with | mk c wd=>
  rw [Vh] at hv;simp only [yb,yg] at hv;obtain ⟨rfl,rfl,rfl⟩:=hv;have hd:Utf8.decode t pos=(c,wd):=by rw [<-YO,g3,Vh]
  have lO:dR O m S {w with heap:=w.heap.setIfInBounds p.b (.stringIter t (pos+wd))} id (.si s (pos+wd)):=⟨p,t,hm,Dr g2,g3,g4⟩;obtain ⟨e1,e2⟩:=AT hh hg hm g4 (sF w p.b _) lO (fun r hr=>by rw [g2] at hr;cases hr);refine ⟨.value (.tuple #[.bool true,goInt pos,.int .i32 c]),_,_,m,S,?_,.inl rfl,e1,by simp [af,an,goInt],cE.refl,e2⟩
  have aY:(setObj p.b (.stringIter t (pos+wd))).run O.P w= .ok () {w with heap:=w.heap.setIfInBounds p.b (.stringIter t (pos+wd))}:=by simp [setObj,Sem.run,g2]
  simp [execOp,ho,ex,Instr.next,ak,aV,hd,aY]
end
end
section
open Go
def AM {hp:Hp} {id i:Nat}:ak (cw hp id) i=if id=i then none else ak hp i:=by
 induction hp with
 | nil=>simp [cw,ak]
 | cons x r ih=>
  obtain ⟨j,q⟩:=x;simp only [cw];by_cases hj:j=id
  ·subst hj;simp only [y9,yi,ih,ak];by_cases hi:j=i
   ·grind
   ·have:yk j i=false:=by
     cases hq:yk j i with
     | false=>rfl
     | true=>exact absurd (yh hq) hi
    grind
  ·have hb:yk j id=false:=by
    cases hq:yk j id with
    | false=>rfl
    | true=>exact absurd (yh hq) hj
   simp only [hb,yr];rw [show ak ((j,q)::cw r id) i=bif yk j i then some q else ak (cw r id) i from rfl,ih];by_cases hi:j=i
   ·subst hi
    have:¬id=j:=fun h=>hj h.symm
    simp [y9,this,ak]
   ·have mN:yk j i=false:=by
     cases hq:yk j i with
     | false=>rfl
     | true=>exact absurd (yh hq) hi
    simp [mN,ak]
section
variable {O:a8} {H:Hint} {m:Mp} {S:Nat->Prop} {w:yf} {tm:Env} {a:Act} {hp:Hp} {ct:Nat}
def Src (P:yJ) (w:yf) (size n:Nat) (news:List yd) (x:yd):Prop:=
 (∀w',(Builtin.lenOf x).run P w'= .ok n w')/\news.length=n*size/\
 ∀w',w'.heap=w.heap->∀k,k<=n->(Builtin.firstCells size k x).run P w'= .ok (news.take (k*size)).toArray w'
def AN {P:yJ} {size n c:Nat} {b:Addr} {news:List yd} (hl:news.length=n*size) (hc:∀j u,news[j]? =some u->w.cell? (b.add j)=some u):
  Src P w size n news (.slice (some b) n c):=by
 refine ⟨fun w'=>by simp [Builtin.lenOf],hl,fun w' hw k hk=>?_⟩;have hle:k*size<=news.length:=by rw [hl];exact xo _ hk
 refine run_firstCells_some (P:=P) w' size k b n c (news.take (k*size)) (by rw [yN];omega) (fun j v hv=>?_);rw [List.getElem?_take] at hv
 split at hv
 ·have:=hc j v hv
  simpa [World.cell?,hw] using this
 ·cases hv
def OZ {P:yJ} {size:Nat}:Src P w size 0 [] (.slice none 0 0):=
 ⟨fun w'=>by simp [Builtin.lenOf],by simp,fun w' _ k hk=>by simp [Builtin.firstCells]⟩
def XZ (s:ByteArray) (k:Nat):(s.extract 0 k).data.map (fun b=>Value.int .u8 b.toNat)=((s.data.toList.map fun b=>Value.int .u8 (b.toNat:Int)).take k).toArray:=by
 have:(s.extract 0 k).data=s.data.extract 0 k:=by simp
 grind
def acL {P:yJ} {s:ByteArray}:Src P w 1 s.size (s.data.toList.map fun b=>Value.int .u8 (b.toNat:Int)) (.string s):=by
 refine ⟨fun w'=>by simp [Builtin.lenOf],by simp,fun w' _ k hk=>?_⟩;simp only [Builtin.firstCells,Sem.run_pure,Nat.mul_one];rw [XZ]
def L2 {ae:Nat->Nat}:∀l:List UInt8,an ae m S w (D4 (l.map yK)) (l.map fun b=>Value.int .u8 (b.toNat:Int))
 | []=>by simp [D4,an]
 | b::r=>by
  exact ⟨_,_,rfl,by simp [af],L2 r⟩
def Mt {size n:Nat} {vx:AV} {x:yd} {cs:List AV} (hh:aJ O m S w hp ct) (hx:af O.ae m S w vx x) (h:lj hp size vx=some (n,cs)):
  ∃us,an O.ae m S w cs us/\Src O.P w size n us x:=by
 cases vx<;>simp only [lj,reduceCtorEq] at h
 case aa=>
  obtain ⟨rfl,rfl⟩:=h;subst hx;exact ⟨[],by simp [an],OZ⟩
 case aB ex n' cF=>
  cases hc:yk cF.length (n'*size) with
  | false=>rw [hc] at h;cases h
  | true=>
   rw [hc] at h;obtain ⟨rfl,rfl⟩:=h;have hl:=yh hc;rcases hx with ⟨b,o,c,rfl,h1,h2,h3,h4,h5⟩ | ⟨ad,rfl,rfl,rfl⟩
   ·obtain ⟨us,g1,g2,g3⟩:=nd _ b o h5;exact ⟨us,g1,AN (by omega) (fun j u hj=>by rw [kx];exact g3 j u hj)⟩
   ·exact ⟨[],by simp [an],AN (by simp) (fun j u hj=>by simp at hj)⟩
 case au id o n'=>
  cases hg:ak hp id with
  | none=>simp [hg] at h
  | some ob=>
   cases ob<;>simp only [hg,reduceCtorEq] at h
   rename_i rw pu ex z cF
   cases hc:yy (o+n'*size) cF.length with
   | false=>rw [hc] at h;cases h
   | true=>
    rw [hc] at h;simp only [yi,yb,yg] at h;obtain ⟨rfl,rfl⟩:=h;have hl:=yo hc;obtain ⟨p,c,hm,rfl,h1,h2⟩:=hx;have hr:=HS (o:=0) (n:=0) hh hg hm;have eH:=p9 (n'*size) _ _ _ (lY o _ _ _ hr);obtain ⟨us,g1,g2,g3⟩:=nd _ p.b (p.o+o) eH;refine ⟨us,g1,AN ?_ (fun j u hj=>by rw [kx];exact g3 j u hj)⟩
    grind
def YP {size n:Nat} {vx:AV} {x:yd} {cs:List AV} (hh:aJ O m S w hp ct) (hx:af O.ae m S w vx x) (h:nt hp size vx=some (n,cs)):
  ∃us,an O.ae m S w cs us/\Src O.P w size n us x:=by
 cases vx<;>try exact Mt hh hx h
 simp only [nt] at h
 cases hc:yk size 1 with
 | false=>rw [hc] at h;cases h
 | true=>
  rw [hc] at h;obtain ⟨rfl,rfl⟩:=h
  have:=yh hc
  subst this;obtain ⟨t,rfl,rfl⟩:=hx;refine ⟨_,L2 _,?_⟩
  have:(List.map yK t.data.toList).length=t.size:=by simp
  rw [this];exact acL
def Xg {P:yJ} {t u ty e:yj} {i:yaZ} (ht:P.underlying t=some (.slice e)) (hu:(∃e',P.underlying u=some (.slice e'))\/P.underlying u=some .string) (hi:P.info? e=some i)
  {g o fA lD:Nat} {cur:Array yd} {te:yj} (hg:w.heap[g]? =some (.cells cur te (0,0))) {x:yd} {n:Nat} {news:List yd} (hs:Src P w i.size n news x) (h1:∀u∈news,u.oneCell'=true)
  (ze:fA+n<=lD) (JF:o+fA*i.size+news.length<=cur.size):
  (Builtin.append_ #[t,u] ty #[.slice (some ⟨g,o,none⟩) fA lD,x]).run P w=
   .ok (.slice (some ⟨g,o,none⟩) (fA+n) lD) (w.setRow g (cur.toList.take (o+fA*i.size)++news++cur.toList.drop (o+fA*i.size+news.length)).toArray):=by
 obtain ⟨pH,zR,Kv⟩:=hs;have hf:=Kv w rfl n (yC _);rw [yF (by omega)] at hf;have aT:=run_storeCells_at P g (o+fA*i.size) te news 0 cur w hg (by omega) h1;rcases hu with ⟨e',hd⟩ | hd<;>
  simp [Builtin.append_,run_underlying ht,run_underlying hd,vl,typeInfo,hi,pH,ze,hf,kx,aT]
def GZ {P:yJ} {t u ty e:yj} {i:yaZ} {z:yd} (ht:P.underlying t=some (.slice e)) (hu:(∃e',P.underlying u=some (.slice e'))\/P.underlying u=some .string) (hi:P.info? e=some i) (hz:i.zero=some z)
  {s:yd} {base:Option Addr} {fA lD:Nat} (es:s= .slice base fA lD) {jx:List yd} (ho:Src P w i.size fA jx s) {x:yd} {n:Nat} {news:List yd} (hs:Src P w i.size n news x)
  (hg:lD<fA+n) (h63:fA+n<=1099511627776) (Ku:(fA+n)*i.bytes<=1099511627776):
  (Builtin.append_ #[t,u] ty #[s,x]).run P w=
   .ok (.slice (some ⟨w.heap.size,0,none⟩) (fA+n) (grownCap w (fA+n) lD e))
    (w.drew.alloc (.cells ((jx++news).toArray++Builtin.zeroCells z.cells (grownCap w (fA+n) lD e-(fA+n))) e)):=by
 obtain ⟨pH,zR,Kv⟩:=hs;obtain ⟨ho1,Kw,ho3⟩:=ho;have hf:=Kv w.drew rfl n (yC _);rw [yF (by omega)] at hf;have hfo:=ho3 w.drew rfl fA (yC _);have hn:¬(fA+n<=lD):=by omega
 have ai5:¬(9223372036854775807<((fA:Int)+(n:Int))):=by omega
 have JF:=growslice_fits (need:=fA+n) (old:=lD) (bytes:=i.bytes) hg (by omega);have ai6:¬(281474976710656<Builtin.nextslicecap (fA+n) lD*i.bytes):=by omega
 subst es;rcases hu with ⟨e',hd⟩ | hd
 all_goals
  simp [Builtin.append_,run_underlying ht,run_underlying hd,vl,typeInfo,zeroValue,hi,hz,pH,hn,ai5,ai6,Question.forced,hf,hfo,newRow,askRoom,grownCap]
  grind
def Hu {e:yj} {z:yd} {sz need cap:Nat} {cs:List AV} {us:List yd} (hh:aJ O m S w hp ct) (hr:an O.ae m S w cs us) (hl:us.length=need*sz) (hz:z.cells.size=sz)
  (EH:Bool) (hpp:EH=true->az cs=true) (hc:need<=cap):
  let w':=w.drew.alloc (.cells (us.toArray++Builtin.zeroCells z.cells (cap-need)) e)
  let p:Pl:=⟨w.heap.size,0,cap*sz,sz⟩
  ∀m',cE m m'->m' ct=some p->dR O m' S w' ct (.cells true EH false sz cs):=by
 intro w' p m' hm hi;have aT:ej S w w':=fun b hb=>by
  have:=hh.slt b hb
  exact RowKit.Below.heap_alloc w.drew _ b (by simpa using this)
 have my:w'.heap[w.heap.size]? =some (.cells (us.toArray++Builtin.zeroCells z.cells (cap-need)) e (0,0)):=heap_alloc_new w.drew _;have gr:=fU _ _ hr;refine ⟨p,_,e,hi,my,rfl,?_,?_,by simp,?_,hpp,?_,by simp⟩
 ·show cs.length<=cap*sz
  rw [<-gr,hl];exact xo _ hc
 ·show 0+cap*sz<=_
  rw [Array.size_append,vL,size_zeroCells,hz,hl,<-w7]
  grind
 ·refine Ho my cs us 0 (fb hm (fun _ h=>h) aT _ _ hr) (fun j u hj=>?_)
  grind
 ·intro _ hS
  have:=hh.slt _ hS
  grind
def W4 (hh:aJ O m S w hp ct) (g:yao):ej S w (w.drew.alloc g):=fun b hb=>by
 have:=hh.slt b hb
 exact RowKit.Below.heap_alloc w.drew _ b (by simpa using this)
def Hv (hh:aJ O m S w hp ct) {hp0:Hp} {g:yao} {p:Pl} {o:Obj} (E6:∀i q,ak hp0 i=some q->ak hp i=some q) (hb:p.b=w.heap.size)
  (ho:∀m',cE m m'->m' ct=some p->dR O m' S (w.drew.alloc g) ct o):
  aJ O (dS m ct p) S (w.drew.alloc g) ((ct,o)::hp0) (ct+1)/\bK m S w hp (dS m ct p) S (w.drew.alloc g) ((ct,o)::hp0) ct:=by
 have hn:m ct=none:=by
  cases h:m ct with
  | none=>rfl
  | some q=>have:=hh.lt _ _ h;omega
 have hle:=ic hn (p:=p);have aT:=W4 hh g;have hold:∀b,b<w.heap.size->(w.drew.alloc g).heap[b]? =w.heap[b]? :=fun b hb=>RowKit.Below.heap_alloc w.drew _ b (by simpa using hb)
 have eZ:(w.drew.alloc g).heap.size=w.heap.size+1:=by simp
 have iB:∀i q,ak ((ct,o)::hp0) i=some q->i≠ct->ak hp i=some q:=fun i q h hi=>by
  rw [fc,yE (fun e=>hi e.symm)] at h
  grind
 refine ⟨⟨?_,?_,?_,?_,?_,?_,?_,?_,fun i q hq=>(by
  by_cases hc:i=ct
  ·omega
  ·have:=hh.aV _ _ (iB i q hq hc);omega)⟩,⟨rfl,rfl,rfl,by omega,?_,fun _ h=>h,fun b hb=>aT b hb,fun b hb=> .inl hb,?_,fun i q _ h=>hle i q h,fun b r hb=>⟨r,(hold b (Array.getElem?_eq_some_iff.1 hb).1).trans hb⟩⟩⟩
 ·intro i q pi hi bp;by_cases hc:i=ct
  ·subst hc;rw [fc] at hi;simp only [yR,yb] at hi;subst hi;exact ho _ hle de
  ·rw [dd hc] at bp;exact ma hle (fun _ h=>h) aT (fun q' bI=>hold _ (hh.blt i q' bI)) (fun _ _ h=>h) (hh.obj i q pi (iB i q hi hc) bp)
 ·intro i q bp;by_cases hc:i=ct
  ·omega
  ·rw [dd hc] at bp;have:=hh.lt i q bp;omega
 ·intro i j oi oj pi pj hi hj bp eG e;by_cases ci:i=ct
  ·by_cases cj:j=ct
   ·grind
   ·subst ci;rw [de] at bp;rw [dd cj] at eG;injection bp with bp
    subst bp
    have:=hh.blt j pj eG
    omega
  ·rw [dd ci] at bp;by_cases cj:j=ct
   ·subst cj;rw [de] at eG;injection eG with eG
    subst eG
    have:=hh.blt i pi bp
    omega
   ·rw [dd cj] at eG;exact hh.inj i j oi oj pi pj (iB i oi hi ci) (iB j oj hj cj) bp eG e
 ·intro b hb;have:=hh.slt b hb;omega
 ·intro i q bp;by_cases hc:i=ct
  ·subst hc;rw [de] at bp;injection bp with bp
   subst bp;omega
  ·rw [dd hc] at bp;have:=hh.blt i q bp;omega
 ·intro i q bp;have h0:=hh.eK;by_cases hc:i=ct
  ·subst hc;rw [de] at bp;injection bp with bp
   subst bp;omega
  ·rw [dd hc] at bp;exact hh.low i q bp
 ·intro b hb;have h0:=hh.eK;exact (hold b (by omega)).trans (hh.iK b hb)
 ·have h0:=hh.eK;omega
 ·intro b hb _;exact hold b hb
 ·rintro b ⟨i,q,pi,h1,h2,h3⟩;by_cases hc:i=ct
  ·subst hc;rw [de] at h2;injection h2 with h2
   subst h2;exact .inr (by omega)
  ·rw [dd hc] at h2;exact .inl ⟨i,q,pi,iB i q h1 hc,h2,h3⟩
def YQ (hh:aJ O m S w hp ct) {id:Nat} {o o':Obj} {p p':Pl} {w':yf} (hg:ak hp id=some o) (hm:m id=some p) (hn:¬S p.b) (hw:One w w' p.b) (hk:∀r:vz,w.heap[p.b]? =some (.loop r)->∃r':vz,w'.heap[p.b]? =some (.loop r')) (hb:p'.b=p.b)
  (ho:∀m',cE m m'->m' ct=some p'->dR O m' S w' ct o'):
  aJ O (dS m ct p') S w' ((ct,o')::cw hp id) (ct+1)/\bK m S w hp (dS m ct p') S w' ((ct,o')::cw hp id) ct:=by
 have Kt:m ct=none:=by
  cases h:m ct with
  | none=>rfl
  | some q=>have:=hh.lt _ _ h;omega
 have hle:=ic Kt (p:=p');have aT:ej S w w':=fun b hb=>hw.other b (fun e=>hn (e▸hb))
 have iB:∀i q,ak ((ct,o')::cw hp id) i=some q->i≠ct->ak hp i=some q/\i≠id:=fun i q h hi=>by
  rw [fc,yE (fun e=>hi e.symm),AM] at h
  grind
 have Tk:∀i q pi,ak hp i=some q->i≠id->m i=some pi->pi.b≠p.b:=fun i q pi h hi bp e=>hi (hh.inj i id q o pi p h hg bp hm e)
 refine ⟨⟨?_,?_,?_,?_,?_,?_,?_,?_,fun i q hq=>(by
  by_cases hc:i=ct
  ·omega
  ·have:=hh.aV _ _ (iB i q hq hc).1;omega)⟩,⟨hw.os,hw.tape,hw.output,by rw [hw.size];exact yC _,?_,fun _ h=>h,fun b hb=>aT b hb,fun b hb=> .inl hb,?_,fun i q _ h=>hle i q h,fun b r hb=>(by
  by_cases hc:b=p.b
  ·grind
  ·exact ⟨r,(hw.other b hc).trans hb⟩)⟩⟩
 ·intro i q pi hi bp;by_cases hc:i=ct
  ·subst hc;rw [fc] at hi;simp only [yR,yb] at hi;subst hi;exact ho _ hle de
  ·rw [dd hc] at bp;obtain ⟨h1,h2⟩:=iB i q hi hc;exact ma hle (fun _ h=>h) aT (fun q' bI=>hw.other _ (Tk i q q' h1 h2 bI)) (fun _ _ h=>h) (hh.obj i q pi h1 bp)
 ·intro i q bp;by_cases hc:i=ct
  ·omega
  ·rw [dd hc] at bp;have:=hh.lt i q bp;omega
 ·intro i j oi oj pi pj hi hj bp eG e;by_cases ci:i=ct
  ·by_cases cj:j=ct
   ·grind
   ·subst ci;rw [de] at bp;rw [dd cj] at eG
    grind
  ·rw [dd ci] at bp;obtain ⟨h1,h2⟩:=iB i oi hi ci;by_cases cj:j=ct
   ·subst cj;rw [de] at eG;injection eG with eG
    subst eG;exact (Tk i oi pi h1 h2 bp (by rw [e,hb])).elim
   ·rw [dd cj] at eG;exact hh.inj i j oi oj pi pj h1 (iB j oj hj cj).1 bp eG e
 ·intro b hb;rw [hw.size];exact hh.slt b hb
 ·intro i q bp;rw [hw.size];by_cases hc:i=ct
  ·subst hc;rw [de] at bp;injection bp with bp
   subst bp;rw [hb];exact hh.blt id p hm
  ·rw [dd hc] at bp;exact hh.blt i q bp
 ·intro i q bp;by_cases hc:i=ct
  ·subst hc;rw [de] at bp;injection bp with bp
   subst bp;rw [hb];exact hh.low id p hm
  ·rw [dd hc] at bp;exact hh.low i q bp
 ·intro b hb
  rw [hw.other b (fun e=>by have:=hh.low id p hm;omega)];exact hh.iK b hb
 ·rw [hw.size];exact hh.eK
 ·intro b _ db;exact hw.other b (fun e=>db (e▸A9 hg hm))
 ·rintro b ⟨i,q,pi,h1,h2,h3⟩;by_cases hc:i=ct
  ·subst hc;rw [de] at h2;injection h2 with h2
   subst h2;exact .inl ⟨id,o,p,hg,hm,by rw [<-h3,hb]⟩
  ·rw [dd hc] at h2;exact .inl ⟨i,q,pi,(iB i q h1 hc).1,h2,h3⟩
def acM {P:yJ} {e:yj} {s by':Nat} {z:AV} (hs:bU P e=some s) (hb:pw P e=some by') (hz:ju P e=some z):
  ∃ti zv,P.info? e=some ti/\ti.size=s/\ti.bytes=by'/\ti.zero=some zv/\z=du zv:=by
 unfold bU at hs;unfold pw at hb;unfold ju at hz
 cases hi:P.info? e with
 | none=>simp [hi] at hs
 | some ti=>
  simp only [hi,yb] at hs hb hz
  cases ew:ti.zero with
  | none=>simp [ew] at hz
  | some zv=>
   grind
def AU {o:yI} {v:AV} {u:yd} {w':yf} {m':Mp} {S':Nat->Prop} {ai:Hp} {aO:Nat} (h1:(execOp a.eval o).run O.P w= .ok (.value u) w') (h2:aJ O m' S' w' ai aO) (h3:af O.ae m' S' w' v u)
  (h4:cE m m') (h5:bK m S w hp m' S' w' ai ct):nF O m S w a hp ct o v ai aO:=⟨_,u,w',m',S',h1,.inl rfl,h2,h3,h4,h5⟩
def aaz {o:yI} {b':yj} {t u e:yj} {sz by':Nat} {z:AV} {x y:y8} {v:AV} {ai:Hp} {aO:Nat} (hH:dY O H) (ht:bM O m S w tm a.tmps) (hh:aJ O m S w hp ct)
  (eM:(execOp a.eval o).run O.P w=((do pure (.value (<-Builtin.append_ #[t,u] b' #[a.eval x,a.eval y])):Sem tP)).run O.P w)
  (pL:O.P.underlying t=some (.slice e)) (hu:(∃e',O.P.underlying u=some (.slice e'))\/O.P.underlying u=some .string) (hs:bU O.P e=some sz) (hb:pw O.P e=some by') (hz:ju O.P e=some z) (zO:(cellsOf z).length=sz)
  (hv:cg tm hp ct (.cy sz by' (aH H x) (aH H y))=some (v,ai,aO)):nF O m S w a hp ct o v ai aO:=by
 simp only [cg] at hv;obtain ⟨ti,zv,nZ,rfl,rfl,Kx,rfl⟩:=acM hs hb hz;have bi:∀u' w',(Builtin.append_ #[t,u] b' #[a.eval x,a.eval y]).run O.P w= .ok u' w'->(execOp a.eval o).run O.P w= .ok (.value u') w':=fun u' w' h=>by
  rw [eM,Sem.run_bind,h];rfl
 have mq:m ct=none:=by
  cases h:m ct with
  | none=>rfl
  | some q=>have:=hh.lt _ _ h;omega
 have CE:zv.cells.size=ti.size:=by
  have:=fU _ _ (sA (ae:=O.ae) (m:=m) (S:=S) (w:=w) zv)
  rw [<-zO,<-this];simp
 cases rm:nt hp ti.size (aq tm (aH H y)) with
 | none=>simp [rm] at hv
 | some q=>
  obtain ⟨n,new⟩:=q;simp only [rm] at hv;obtain ⟨news,fq,eI⟩:=YP hh (bQ hH ht y) rm;have Ky:=fU _ _ fq;have rx:=bQ hH ht x
  cases hx:aq tm (aH H x) with
  | aa=>
   rw [hx] at hv rx;simp only at hv;simp only [af] at rx
   cases h0:yk n 0 with
   | true=>
    rw [h0] at hv;simp only [yi,yb,yg] at hv;obtain ⟨rfl,rfl,rfl⟩:=hv;have jB:=yh h0;subst jB;have Ji:news=[]:=yB (by rw [eI.2.1];simp)
    subst Ji;have hf:=eI.2.2 w rfl 0 (yC _);have mI:=eI.1 w;refine ⟨.value (.slice none 0 0),.slice none 0 0,w,m,S,?_,.inl rfl,hh,by simp [af],cE.refl,bK.refl⟩;rw [eM,rx];rcases hu with ⟨e',hu⟩ | hu<;>
     simp [Builtin.append_,run_underlying pL,run_underlying hu,vl,typeInfo,nZ,mI,hf]
   | false=>
    rw [h0] at hv;simp only [yr] at hv
    cases hc:(yy n room&&(yy (n*ti.bytes) room&&yA 0 ti.size)) with
    | false=>rw [hc] at hv;cases hv
    | true=>
     rw [hc] at hv;simp only [yi,yb,yg] at hv;obtain ⟨rfl,rfl,rfl⟩:=hv;simp only [ye] at hc;have c1:=yo hc.1;have c2:=yo hc.2.1;simp only [room] at c1 c2;have jB:0<n:=by
      rcases xv n with h | h
      ·subst h;simp at h0
      ·exact h
     have hr:=GZ (P:=O.P) (ty:=b') (w:=w) pL hu nZ Kx (s:= .slice none 0 0) rfl (OZ (P:=O.P) (size:=ti.size)) eI (by omega) (by omega) (by simpa using c2);simp only [yp,List.nil_append] at hr;have kQ:=grownCap_ge w n 0 e;have my:=Hu (e:=e) (z:=zv) (cap:=grownCap w n 0 e) hh fq (need:=n) (sz:=ti.size) eI.2.1 CE (az new) (fun h=>h) kQ;obtain ⟨k1,k2⟩:=Hv hh (hp0:=hp) (p:=⟨w.heap.size,0,grownCap w n 0 e*ti.size,ti.size⟩) (fun _ _ h=>h) rfl my;exact AU (bi _ _ (by rw [rx];exact hr)) k1 (by simp only [af];exact ⟨_,_,de,rfl,kQ,by simp⟩) (ic mq) k2
  | aB ex k cs=>
   rw [hx] at hv rx
   cases ex with
   | false=>simp at hv
   | true=>
    simp only at hv;have rx0:=rx;simp only [af] at rx;have rx1:∃ad jx,a.eval x= .slice (some ad) k k/\an O.ae m S w cs jx/\jx.length=cs.length/\(∀(j:Nat) (u:yd),jx[j]? =some u->w.cell? (ad.add j)=some u)/\az cs=true:=by
     rcases rx with ⟨bb,oo,c,ex,h1,h2,h3,h4,h5⟩ | ⟨ad,ex,rfl,rfl⟩
     ·have lP:c=k:=h2 (by trivial);subst lP;obtain ⟨jx,g1,g2,g3⟩:=nd cs bb oo h5;exact ⟨_,jx,ex,g1,g2,fun j u hj=>by rw [kx];exact g3 j u hj,h4⟩
     ·exact ⟨ad,[],ex,by simp [an],rfl,fun j u hj=>by simp at hj,rfl⟩
    obtain ⟨ad,jx,ex,g1,g2,g3,h4⟩:=rx1
    cases h0:yk n 0 with
    | true=>
     rw [h0] at hv;simp only [yi,yb,yg] at hv;obtain ⟨rfl,rfl,rfl⟩:=hv;have jB:=yh h0;subst jB;have Ji:news=[]:=yB (by rw [eI.2.1];simp)
     subst Ji;have hf:=eI.2.2 w rfl 0 (yC _);have mI:=eI.1 w;refine ⟨.value (a.eval x),a.eval x,w,m,S,?_,.inl rfl,hh,rx0,cE.refl,bK.refl⟩;rw [eM,ex];rcases hu with ⟨e',hu⟩ | hu<;>
      simp [Builtin.append_,run_underlying pL,run_underlying hu,vl,typeInfo,nZ,mI,hf,storeCells]
    | false=>
     rw [h0] at hv;simp only [yr] at hv
     cases hc:(yy (k+n) room&&(yy ((k+n)*ti.bytes) room&&(yk cs.length (k*ti.size)&&yA 0 ti.size))) with
     | false=>rw [hc] at hv;cases hv
     | true=>
      rw [hc] at hv;simp only [yi,yb,yg] at hv;obtain ⟨rfl,rfl,rfl⟩:=hv;simp only [ye] at hc;have c1:=yo hc.1;have c2:=yo hc.2.1;have c3:=yh hc.2.2.1;simp only [room] at c1 c2;have jB:0<n:=by
       rcases xv n with h | h
       ·subst h;simp at h0
       ·exact h
      have Kz:Src O.P w ti.size k jx (.slice (some ad) k k):=AN (by omega) g3;have hr:=GZ (P:=O.P) (ty:=b') (w:=w) pL hu nZ Kx rfl Kz eI (by omega) c1 c2;have kQ:=grownCap_ge w (k+n) k e;have my:=Hu (e:=e) (z:=zv) (cap:=grownCap w (k+n) k e) hh (iS g1 fq) (need:=k+n) (sz:=ti.size) (by rw [yW,g2,c3,eI.2.1,w7]) CE (az cs&&az new)
       (fun h=>by simp only [ye] at h;exact sB h.1 h.2) kQ
      obtain ⟨k1,k2⟩:=Hv hh (hp0:=hp) (p:=⟨w.heap.size,0,grownCap w (k+n) k e*ti.size,ti.size⟩) (fun _ _ h=>h) rfl my;exact AU (bi _ _ (by rw [ex];exact hr)) k1 (by simp only [af];exact ⟨_,_,de,rfl,kQ,by simp⟩) (ic mq) k2
  | au id o0 k=>
   rw [hx] at hv rx;simp only at hv;simp only [af] at rx;obtain ⟨p,c,hm,ex,h1,h2⟩:=rx
   split at hv
   case h_2=>cases hv
   rename_i pu FO zz cs hg
   cases hc:(yk zz ti.size&&(yy (k+n) room&&(yy ((k+n)*ti.bytes) room&&(yy (o0+k*ti.size) cs.length&&(yA 0 ti.size&&bY new))))) with
   | false=>rw [hc] at hv;cases hv
   | true=>
    rw [hc] at hv;simp only [yi,yb,yg] at hv;obtain ⟨rfl,rfl,rfl⟩:=hv;simp only [ye] at hc;have c0:=yh hc.1;have c1:=yo hc.2.1;have c2:=yo hc.2.2.1;have c3:=yo hc.2.2.2.1;have c4:=hc.2.2.2.2.2;simp only [room] at c1 c2;obtain ⟨p',arr,t',g1,g2,g3,g4,g5,g6,g7,g8,g9,g10⟩:=hh.obj id _ _ hg hm;rw [hm] at g1;injection g1 with g1
    subst g1;subst c0;rw [g3] at h2;have FP:bC O.ae m S w (slice o0 (k*ti.size) cs) p.b (p.o+o0):=p9 _ _ _ _ (lY _ _ _ _ g7);obtain ⟨jx,f1,f2,f3⟩:=nd _ _ _ FP;have Tl:(slice o0 (k*ti.size) cs).length=k*ti.size:=by simp only [slice,yN,wv];omega
    have mL:(pu&&az new)=true->az (slice o0 (k*ti.size) cs++new)=true:=fun h=>by
     simp only [ye] at h;exact sB (p7 _ (ou _ _ (g8 h.1))) h.2
    by_cases ze:k+n<=c
    ·have fm:=DE fq c4;have JF:p.o+o0+k*ti.size+news.length<=arr.size:=by
      rw [eI.2.1]
      have:(k+n)*ti.size<=c*ti.size:=xo _ ze
      rw [w7] at this;omega
     have hr:=Xg (P:=O.P) (ty:=b') (w:=w) pL hu nZ g2 eI fm ze JF;have ho:∀m',cE m m'->m' ct=some ⟨p.b,p.o+o0,c*ti.size,ti.size⟩->
       dR O m' S (w.setRow p.b (arr.toList.take (p.o+o0+k*ti.size)++news++arr.toList.drop (p.o+o0+k*ti.size+news.length)).toArray) ct
        (.cells true (pu&&az new) false ti.size (slice o0 (k*ti.size) cs++new)):=by
      intro m' hle hi;have aT:ej S w (w.setRow p.b (arr.toList.take (p.o+o0+k*ti.size)++news++arr.toList.drop (p.o+o0+k*ti.size+news.length)).toArray):=fun b hb=>setRow_other w p.b b _ (fun e=>g9 rfl (e▸hb))
      refine ⟨_,_,t',hi,setRow_heap w p.b arr _ t' _ g2,rfl,?_,?_,by simp,?_,mL,fun _=>g9 rfl,by simp⟩
      ·show (slice o0 (k*ti.size) cs++new).length<=c*ti.size
       rw [yW,Tl,<-Ky,eI.2.1,<-w7];exact xo _ ze
      ·show p.o+o0+c*ti.size<=_
       rw [vL,yW,yW,yN,wv,wI];omega
      ·refine sK _ (jx++news) _ (iS (fb hle (fun _ h=>h) aT _ _ f1) (fb hle (fun _ h=>h) aT _ _ fq)) (fun j u hj=>?_);show World.cell? _ ⟨p.b,p.o+o0+j,none⟩=some u
       simp only [World.cell?,setRow_heap w p.b arr _ t' _ g2,uG,yq,yM];rw [uA];have e1:(arr.toList.take (p.o+o0+k*ti.size)).length=p.o+o0+k*ti.size:=by rw [yN,wI];omega
       by_cases Kr:j<k*ti.size
       ·rw [xy (by omega)] at hj;rw [y7,xy (by omega),wX (by omega)]
        have:=f3 j u hj
        simpa [World.cell?,g2] using this
       ·rw [xh (by omega)] at hj;have Vi:=(List.getElem?_eq_some_iff.1 hj).1;rw [y7,xh (by omega),e1,xy (by omega),show p.o+o0+j-(p.o+o0+k*ti.size)=j-jx.length by omega];exact hj
     obtain ⟨k1,k2⟩:=YQ (p':=⟨p.b,p.o+o0,c*ti.size,ti.size⟩) hh hg hm (g9 rfl) (Ha w p.b _) (fun r hr=>by rw [g2] at hr;cases hr) rfl ho;exact AU (bi _ _ (by rw [ex];exact hr)) k1 (by simp only [af];exact ⟨_,c,de,rfl,ze,by simp⟩) (ic mq) k2
    ·have Kz:Src O.P w ti.size k jx (.slice (some ⟨p.b,p.o+o0,none⟩) k c):=AN (by omega) (fun j u hj=>by rw [kx];exact f3 j u hj)
     have hr:=GZ (P:=O.P) (ty:=b') (w:=w) pL hu nZ Kx rfl Kz eI (by omega) c1 c2;have kQ:=grownCap_ge w (k+n) c e;have my:=Hu (e:=e) (z:=zv) (cap:=grownCap w (k+n) c e) hh (iS f1 fq) (need:=k+n) (sz:=ti.size) (by rw [yW,f2,Tl,eI.2.1,w7]) CE (pu&&az new) mL kQ;obtain ⟨k1,k2⟩:=Hv hh (hp0:=cw hp id) (p:=⟨w.heap.size,0,grownCap w (k+n) c e*ti.size,ti.size⟩) (fun i q h=>by
      rw [AM] at h;by_cases hi:id=i
      ·simp [hi] at h
      ·simpa only [hi,yM] using h) rfl my
     exact AU (bi _ _ (by rw [ex];exact hr)) k1 (by simp only [af];exact ⟨_,_,de,rfl,kQ,by simp⟩) (ic mq) k2
  | _=>rw [hx] at hv;simp at hv
end
end
section
open Go
section
variable {O:a8} {H:Hint} {m:Mp} {S:Nat->Prop} {w:yf} {tm:Env} {a:Act} {hp:Hp} {ct:Nat}
def Xr {n:Nat} {cs:List AV} (h:az cs=true):az (cs.take n)=true:=p7 n h
def LJ:∀(n:Nat) {cs:List AV},bY cs=true->bY (cs.take n)=true
 | 0,_,_=>by simp [bY]
 | n+1,[],_=>by simp [bY]
 | n+1,c::cs,h=>by
  simp only [List.take_succ_cons,bY,ye] at h ⊢;exact ⟨h.1,LJ n h.2⟩
def aaA {o:yI} {b':yj} {t u e:yj} {sz:Nat} {x y:y8} {v:AV} {ai:Hp} {aO:Nat} (hH:dY O H) (ht:bM O m S w tm a.tmps) (hh:aJ O m S w hp ct)
  (eM:(execOp a.eval o).run O.P w=((do pure (.value (<-Builtin.copy_ #[t,u] b' #[a.eval x,a.eval y])):Sem tP)).run O.P w)
  (pL:O.P.underlying t=some (.slice e)) (hs:bU O.P e=some sz)
  (hv:cg tm hp ct (.kN sz (aH H x) (aH H y))=some (v,ai,aO)):nF O m S w a hp ct o v ai aO:=by
 simp only [cg] at hv
 cases rm:lj hp sz (aq tm (aH H y)) with
 | none=>simp [rm] at hv
 | some q=>
  obtain ⟨n,new⟩:=q;simp only [rm] at hv;obtain ⟨news,fq,eI⟩:=Mt hh (bQ hH ht y) rm;have Ky:=fU _ _ fq;have rx:=bQ hH ht x;cases hx:aq tm (aH H x)<;>rw [hx] at hv rx<;>simp only [reduceCtorEq] at hv
  rename_i id o0 k;simp only [af] at rx;obtain ⟨p,c,hm,ex,h1,h2⟩:=rx
  split at hv
  case h_2=>cases hv
  rename_i pu FO zz cs hg
  cases hc:(yk zz sz&&(yy (o0+k*sz) cs.length&&bY new)) with
  | false=>rw [hc] at hv;cases hv
  | true=>
   rw [hc] at hv;simp only [yi,yb,yg] at hv;obtain ⟨rfl,rfl,rfl⟩:=hv;simp only [ye] at hc;have c0:=yh hc.1;have c1:=yo hc.2.1;subst c0;obtain ⟨p',arr,t',g1,g2,g3,g4,g5,g6,g7,g8,g9,g10⟩:=hh.obj id _ _ hg hm;rw [hm] at g1;injection g1 with g1
   subst g1;have anp:min n k*zz<=k*zz:=xo _ (Nat.min_le_right _ _);have ang:min n k*zz<=n*zz:=xo _ (tW _ _);have rt:=sI (min n k*zz) fq;have Vj:(news.take (min n k*zz)).length=min n k*zz:=by rw [yN,eI.2.1];omega
   have anq:(new.take (min n k*zz)).length=min n k*zz:=by rw [yN,<-Ky,eI.2.1];omega
   have fm:=DE rt (LJ _ hc.2.2);have hf:=eI.2.2 w rfl (min n k) (tW _ _);have aT:=run_storeCells_at O.P p.b (p.o+o0) t' (news.take (min n k*zz)) 0 arr w g2 (by rw [Vj];omega) fm;simp only [xH] at aT;have lO:dR O m S (w.setRow p.b (arr.toList.take (p.o+o0)++news.take (min n k*zz)++arr.toList.drop (p.o+o0+(news.take (min n k*zz)).length)).toArray) id
     (.cells true (pu&&az new) FO zz (over o0 (new.take (min n k*zz)) cs)):=by
    refine ⟨p,_,t',hm,setRow_heap w p.b arr _ t' _ g2,g3,by rw [DT (by omega)];exact g4,?_,fun h=>by rw [DT (by omega)];exact g6 h,?_,?_,fun _=>g9 rfl,by simp⟩
    ·rw [vL,yW,yW,yN,wv,wI,Vj];omega
    ·exact N4 g2 g7 rt (by omega) (by omega) cE.refl (fun _ h=>h) (fun b hb=>setRow_other w p.b b _ (fun e=>g9 rfl (e▸hb))) (setRow_heap w p.b arr _ t' _ g2)
    ·intro h;simp only [ye] at h;exact Mr (g8 h.1) (Xr h.2)
   obtain ⟨e1,e2⟩:=AT hh hg hm (g9 rfl) (Ha w p.b _) lO (fun r hr=>by rw [g2] at hr;cases hr)
   refine AU (u:=goInt ((min n k:Nat):Int)) (m':=m) (S':=S) ?_ e1 (by simp [af,goInt]) cE.refl e2;rw [eM,ex];simp [Builtin.copy_,run_underlying pL,eI.1 w,jG hs,show Nat.min n k=min n k from rfl,hf,aT]
def acN {o:yI} {k:Nat} {v:AV} {ai:Hp} {aO:Nat} (hH:dY O H) (ht:bM O m S w tm a.tmps) (hh:aJ O m S w hp ct)
  (hv:cg tm hp ct (aW O.P H k o)=some (v,ai,aO)):nF O m S w a hp ct o v ai aO:=by
 have ja:∀{r:AV×Hp×Nat},cg tm hp ct bad=some r->False:=fun h=>by simp [bad,cg] at h
 cases ho:o.op with
 | call c=>
  obtain ⟨callee,args,ts⟩:=c;simp only [aW,ho] at hv
  split at hv
  ·cases Kp:H.mode k<;>simp [Kp,cg] at hv
  ·rename_i _ b
   split at hv
   ·rename_i x y t u fM pI;obtain ⟨al⟩:=args;obtain ⟨tl⟩:=ts;simp only at fM pI;subst fM;subst pI;obtain ⟨cs,eM⟩:=Az (O:=O) (w:=w) (a:=a) ho;have Jj:(execOp a.eval o).run O.P w=((do pure (.value (<-Builtin.append_ #[t,u] o.type #[a.eval x,a.eval y])):Sem tP)).run O.P w:=by
     rw [eM];simp [builtin]
    have key:∀{z:AV} {sz by':Nat} {e:yj},O.P.underlying t=some (.slice e)->((∃e',O.P.underlying u=some (.slice e'))\/O.P.underlying u=some .string)->bU O.P e=some sz->pw O.P e=some by'->ju O.P e=some z->
      cg tm hp ct (bif yk (cellsOf z).length sz then .cy sz by' (aH H x) (aH H y) else bad)=some (v,ai,aO)->nF O m S w a hp ct o v ai aO:=by
     intro z sz by' e h1 h2 h3 h4 h5 h
     cases hb:yk (cellsOf z).length sz with
     | false=>rw [hb] at h;exact (ja h).elim
     | true=>
      rw [hb] at h;exact aaz hH ht hh Jj h1 h2 h3 h4 h5 (yh hb) h
    split at hv
    ·rename_i e e' h1 h2
     split at hv
     ·rename_i sz by' z h3 h4 h5
      exact key h1 (.inl ⟨_,h2⟩) h3 h4 h5 hv
     ·exact (ja hv).elim
    ·rename_i e h1 h2
     split at hv
     ·rename_i sz by' z h3 h4 h5
      exact key h1 (.inr h2) h3 h4 h5 hv
     ·exact (ja hv).elim
    ·exact (ja hv).elim
   ·repeat' split at hv
    all_goals simp [cg,bad] at hv
   ·rename_i x y t u fM pI;obtain ⟨al⟩:=args;obtain ⟨tl⟩:=ts;simp only at fM pI;subst fM;subst pI;obtain ⟨cs,eM⟩:=Az (O:=O) (w:=w) (a:=a) ho;have Jj:(execOp a.eval o).run O.P w=((do pure (.value (<-Builtin.copy_ #[t,u] o.type #[a.eval x,a.eval y])):Sem tP)).run O.P w:=by
     rw [eM];simp [builtin]
    split at hv
    ·rename_i e h1
     split at hv
     ·rename_i sz h3;exact aaA hH ht hh Jj h1 h3 hv
     ·exact (ja hv).elim
    ·exact (ja hv).elim
   ·simp [cg] at hv
   ·simp [cg] at hv
   ·exact (ja hv).elim
  ·exact (ja hv).elim
 | store t x y=>
  simp only [aW,ho] at hv
  split at hv
  ·rename_i s hs;exact acJ hH ht hh ho hs hv
  ·exact (ja hv).elim
 | mapUpdate t x k y=>
  simp only [aW,ho] at hv
  split at hv
  ·rename_i kt e hu
   split at hv
   ·rename_i kk rQ;exact N5 hH ht hh (.inl ho) hu rQ hv
   ·exact (ja hv).elim
  ·exact (ja hv).elim
 | insert t x k y=>
  simp only [aW,ho] at hv
  split at hv
  ·rename_i kt e hu
   split at hv
   ·rename_i kk rQ;exact N5 hH ht hh (.inr ho) hu rQ hv
   ·exact (ja hv).elim
  ·exact (ja hv).elim
 | next x b=>
  cases b with
  | false=>simp only [aW,ho] at hv;exact (ja hv).elim
  | true=>exact aay hH ht hh ho (by simpa only [aW,ho] using hv)
 | binOp op t x y ty=>
  cases op<;>simp only [aW,ho,mj,nl] at hv
  case eql=>
        repeat' split at hv
        all_goals first
         | (simp [cg,bad] at hv;done)
         | (cases hb:(O.P.stoodInHeld t||O.P.eqGuardType O.P.depth t)<;>rw [hb] at hv<;>simp [cg,bad] at hv)
  case neq=>
        repeat' split at hv
        all_goals first
         | (simp [cg,bad] at hv;done)
         | (cases hb:(O.P.stoodInHeld t||O.P.eqGuardType O.P.depth t)<;>rw [hb] at hv<;>simp [cg,bad] at hv)
  all_goals simp [cg] at hv
 | buildSlice t n parts=>
  simp only [aW,ho] at hv
  repeat' split at hv
  all_goals first
   | (simp [cg,bad] at hv;done)
   | (
     revert hv;generalize yy _ _=bb;intro hv;cases bb<;>simp [cg,bad] at hv
     try (split at hv<;>simp [cg,bad] at hv))
 | makeMap t r=>
  cases r<;>simp only [aW,ho] at hv
  ·repeat' split at hv
   all_goals simp [cg,bad] at hv
  ·exact (ja hv).elim
 | _=>
  simp only [aW,ho] at hv
  (repeat' split at hv)
  all_goals first
   | contradiction
   | (simp [cg,bad] at hv;done)
end
end
section
section
variable {hp H:Hp} {tm tm':Env}
def O0 (hl:cr hp H) {id:Nat} {rw pu ex:Bool} {sz:Nat} {cs:List AV} (h:ak hp id=some (.cells rw pu ex sz cs)):∃dL,ak H id=some (.cells dL pu ex sz cs):=by
 obtain ⟨o',h1,dL,rfl,_⟩:=hl id _ h;exact ⟨dL,h1⟩
def O1 (hl:cr hp H) {id:Nat} {rw:Bool} {ks vs:List AV} (h:ak hp id=some (.mp rw ks vs)):∃dL,ak H id=some (.mp dL ks vs):=by
 obtain ⟨o',h1,dL,rfl,_⟩:=hl id _ h;exact ⟨dL,h1⟩
def O2 (hl:cr hp H) {sz:Nat} {ag:Bool} {x v:AV} (h:gk hp sz ag x=some v):gk H sz ag x=some v:=by
 cases x<;>simp only [gk,reduceCtorEq] at h ⊢
 ·rename_i id o
  cases hg:ak hp id with
  | none=>simp [hg] at h
  | some ob=>
   cases ob<;>simp only [hg,reduceCtorEq] at h
   obtain ⟨r,h1⟩:=O0 hl hg;simp only [h1];exact h
 ·exact h
def aaB (hl:cr hp H) {k x:AV} {v:Option AV} (h:oR hp k x=some v):oR H k x=some v:=by
 cases x<;>simp only [oR,reduceCtorEq] at h ⊢
 ·exact h
 ·rename_i id
  cases hg:ak hp id with
  | none=>simp [hg] at h
  | some ob=>
   cases ob<;>simp only [hg,reduceCtorEq] at h
   obtain ⟨r,h1⟩:=O1 hl hg;simp only [h1];exact h
 ·exact h
def aaC (hl:cr hp H) {k:Nat} {x v:AV} (h:fh hp k x=some v):fh H k x=some v:=by
 unfold fh at h ⊢
 split at h
 all_goals first
  | exact h
  | cases h
  | skip
 rename_i id
 cases hg:ak hp id with
 | none=>simp [hg] at h
 | some ob=>
  cases ob<;>simp only [hg,reduceCtorEq] at h
  obtain ⟨r,h1⟩:=O1 hl hg;simp only [h1];exact h
def aaD (hl:cr hp H) {k:Cut} {x v:AV} {lo hi:Option X} (h:fu hp k x tm lo hi=some v):fu H k x tm lo hi=some v:=by
 unfold fu at h ⊢
 split at h
 all_goals first
  | exact h
  | cases h
  | skip
 rename_i sz id o n
 cases hg:ak hp id with
 | none=>simp [hg] at h
 | some ob=>
  cases ob<;>simp only [hg,reduceCtorEq] at h
  obtain ⟨r,h1⟩:=O0 hl hg;simp only [h1];exact h
def YR (hl:cr hp H) {o:Op} {v:AV} (h:bf tm hp o=some v):bf tm H o=some v:=by
 cases o<;>simp only [bf,reduceCtorEq] at h ⊢<;>first
  | exact h
  | exact O2 hl h
  | exact aaC hl h
  | exact aaD hl h
  | skip
 rename_i kk zero ok m k
 cases hk:nk kk (aq tm k) with
 | false=>rw [hk] at h;cases h
 | true=>
  rw [hk] at h;simp only [yi] at h ⊢
  cases hr:oR hp (aq tm k) (aq tm m) with
  | none=>simp [hr] at h
  | some r=>rw [aaB hl hr];simpa only [hr] using h
def YS {o:Op} (hk:bh o=0) (hp H:Hp):bf tm hp o=bf tm H o:=by
 cases o with
 | cY k x lo hi=>
  cases k with
  | str=>simp only [bf,fu];cases aq tm x<;>rfl
  | sl sz=>simp [bh] at hk
  | ar n sz=>simp [bh] at hk
 | len k x=>
  match k,hk with
  | 0,_=>simp only [bf];unfold fh;split<;>simp_all
  | 1,_=>simp only [bf];unfold fh;split<;>simp_all
  | k+2,hk=>simp [bh] at hk
 | call md f xs=>cases md<;>simp [bh] at hk
 | _=>first
  | rfl
  | simp [bh] at hk
end
section
variable {tm tm':Env}
def cU {x:X} (h:∀t,t∈gD x->ah tm' t=ah tm t):aq tm' x=aq tm x:=by
 cases x with
 | t i=>exact h i (by simp [gD])
 | c v=>rfl
def qc:∀{xs:List X},(∀t,t∈nu xs->ah tm' t=ah tm t)->cA tm' xs=cA tm xs
 | [],_=>rfl
 | x::r,h=>by
  simp only [cA]
  rw [cU (x:=x) (fun t ht=>h t (by simp [nu,ht])),qc (fun t ht=>h t (by simp [nu,ht]))]
def Hw:∀{ps:List (Nat×Nat×X)} {z:List AV},(∀t,t∈BC ps->ah tm' t=ah tm t)->fill tm' z ps=fill tm z ps
 | [],_,_=>rfl
 | (o,s,x)::r,z,h=>by
  simp only [fill]
  rw [cU (x:=x) (fun t ht=>h t (by simp [BC,ht]))]
  rw [Hw (ps:=r) (fun t ht=>h t (by simp [BC,ht]))]
def Mu {d:Nat} {x:Option X} (h:∀t,t∈BB x->ah tm' t=ah tm t):cR tm' d x=cR tm d x:=by
 cases x with
 | none=>rfl
 | some x=>simp only [cR];rw [cU h]
def X0 {hp:Hp} {k:Cut} {x:AV} {lo hi:Option X} (h1:∀t,t∈BB lo->ah tm' t=ah tm t) (h2:∀t,t∈BB hi->ah tm' t=ah tm t):
  fu hp k x tm' lo hi=fu hp k x tm lo hi:=by
 unfold fu;simp only [Mu h1,Mu h2]
def Xs {hp:Hp} {o:Op} (h:∀t,t∈ie o->ah tm' t=ah tm t):bf tm' hp o=bf tm hp o:=by
 cases o<;>simp only [ie,xT] at h<;>simp only [bf]
 case pick c a b=>rw [cU (x:=c) fun t ht=>h t (.inl ht),cU (x:=a) fun t ht=>h t (.inr (.inl ht)),cU (x:=b) fun t ht=>h t (.inr (.inr ht))]
 case cp z ps=>rw [Hw h]
 case iM f a b=>rw [qc (xs:=a) fun t ht=>h t (.inl ht),qc (xs:=b) fun t ht=>h t (.inr ht)]
 case cY k x lo hi=>rw [cU (x:=x) fun t ht=>h t (.inl ht),X0 (fun t ht=>h t (.inr (.inl ht))) (fun t ht=>h t (.inr (.inr ht)))]
 case mn xs=>rw [qc h]
 case mx xs=>rw [qc h]
 case bin op x y=>rw [cU (x:=x) fun t ht=>h t (.inl ht),cU (x:=y) fun t ht=>h t (.inr ht)]
 case eq n k x y=>rw [cU (x:=x) fun t ht=>h t (.inl ht),cU (x:=y) fun t ht=>h t (.inr ht)]
 case bt s x y=>rw [cU (x:=x) fun t ht=>h t (.inl ht),cU (x:=y) fun t ht=>h t (.inr ht)]
 case pn l s x y=>rw [cU (x:=x) fun t ht=>h t (.inl ht),cU (x:=y) fun t ht=>h t (.inr ht)]
 case iA x y=>rw [cU (x:=x) fun t ht=>h t (.inl ht),cU (x:=y) fun t ht=>h t (.inr ht)]
 case po l s g x y=>rw [cU (x:=x) fun t ht=>h t (.inl ht),cU (x:=y) fun t ht=>h t (.inr ht)]
 case FK kk z ok x y=>rw [cU (x:=x) fun t ht=>h t (.inl ht),cU (x:=y) fun t ht=>h t (.inr ht)]
 all_goals first
  | rfl
  | (rename_i x;rw [cU (x:=x) h])
def AA {hp ai:Hp} {ct:Nat} {o:Op} (h:∀t,t∈ie o->ah tm' t=ah tm t):b6 tm' ai ct o=b6 tm hp ct o:=by
 cases o<;>simp only [ie,xT] at h<;>simp only [b6]
 case box s x=>rw [cU (x:=x) h]
 case bw n s z ps=>rw [Hw h]
 case eY s b z x y=>rw [cU (x:=x) fun t ht=>h t (.inl ht),cU (x:=y) fun t ht=>h t (.inr ht)]
 case kL x=>rw [cU (x:=x) h]
def sC {hp:Hp} {ct:Nat} {o:Op} (h:∀t,t∈ie o->ah tm' t=ah tm t):cg tm' hp ct o=cg tm hp ct o:=by
 cases o<;>simp only [ie,xT] at h<;>simp only [cg]
 case st s x y=>rw [cU (x:=x) fun t ht=>h t (.inl ht),cU (x:=y) fun t ht=>h t (.inr ht)]
 case kK kk c a b=>rw [cU (x:=c) fun t ht=>h t (.inl ht),cU (x:=a) fun t ht=>h t (.inr (.inl ht)),cU (x:=b) fun t ht=>h t (.inr (.inr ht))]
 case kM x=>rw [cU (x:=x) h]
 case cy s b x y=>rw [cU (x:=x) fun t ht=>h t (.inl ht),cU (x:=y) fun t ht=>h t (.inr ht)]
 case kN s x y=>rw [cU (x:=x) fun t ht=>h t (.inl ht),cU (x:=y) fun t ht=>h t (.inr ht)]
end
end
end VE
