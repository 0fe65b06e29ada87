import Derived.Laws.CopyOwn
import Derived.Test.YtfohkkaphnfgoaaGreatDoorTab
set_option linter.all false
set_option maxRecDepth 100000
open Array renaming getElem?_eq_some_iff→xv,length_toList→vL
open Bool renaming and_eq_true→ye,false_eq_true→yF
open Go renaming Ending→yax,Loop→uG,MapEntry→uv,Next→yar,Obj→yaQ,Oper→y8,Operand→xy,Program→xi,TypeDesc→vj,TypeId→yy,TypeInfo→ybJ,Value→yf,World→yj,sizeOf→vI
open List renaming append_assoc→xF,cons_append→xu,eq_nil_of_length_eq_zero→yD,ext_getElem?→tZ,getElem?_append_left→xY,getElem?_append_right→xJ,getElem?_drop→tV,getElem?_take_of_lt→vU,getElem?_toArray→tG,length_append→yW,length_drop→wi,length_take→yQ,map_cons→yV,mem_append→wH,size_toArray→uH,take_of_length_le→yp
open Nat renaming add_mul→xH,add_zero→y7,beq→yv,beq_refl→vm,ble→yE,blt→yM,eq_of_beq_eq_true→yo,eq_zero_or_pos→xt,le_of_ble_eq_true→yu,le_refl→yr,le_trans→xn,lt_of_lt_of_le→yP,min_le_left→yaw,mul_le_mul_right→yX,zero_add→yd
open Option renaming isSome_none→tK
open Option.some renaming injEq→yc
open Prod.mk renaming injEq→yq
open UInt8 renaming toNat→y9
namespace VE
section
open Go
section
variable {O:bt} {H:Hint} {m:Mp} {S:Nat->Prop} {w:yj} {tm:Env} {a:Act} {hp:Hp} {ct:Nat}
structure One (w w':yj) (g:Nat):Prop where
 os:w'.os=w.os
 tape:w'.tape=w.tape
 output:w'.output=w.output
 size:w'.heap.size=w.heap.size
 other:∀b,b≠g->w'.heap[b]? =w.heap[b]?
def RA (w:yj) (g:Nat) (cs:Array yf):One w (w.setRow g cs) g:=
 ⟨rfl,rfl,rfl,by simp,fun b hb=>setRow_other w g b cs hb⟩
def Ja {id:Nat} {o:Obj} {p:Pl} (h:az hp id=some o) (hm:m id=some p):ek m hp p.b:=⟨id,o,p,h,hm,rfl⟩
def alX {id:Nat} {o':Obj} {b:Nat} (h:ek m (bg hp id o') b):ek m hp b:=by
 obtain ⟨i,o,p,h1,h2,h3⟩:=h;rw [rS] at h1;by_cases hi:id=i
 ·subst hi
  cases hq:az hp id with
  | none=>simp [hq] at h1
  | some q=>exact ⟨id,q,p,hq,h2,h3⟩
 ·simp only [hi,xh] at h1;exact ⟨i,o,p,h1,h2,h3⟩
def IP (hh:aX O m S w hp ct) {id:Nat} {o o':Obj} {p:Pl} {w':yj} (ho:az hp id=some o) (hm:m id=some p) (hn:¬S p.b) (hw:One w w' p.b) (h':fH O m S w' id o') (hk:∀r:uG,w.heap[p.b]? =some (.loop r)->∃r':uG,w'.heap[p.b]? =some (.loop r')):
  aX O m S w' (bg hp id o') ct/\ck m S w hp m S w' (bg hp id o') ct:=by
 have aP:fX S w w':=fun b hb=>hw.other b (fun e=>hn (e▸hb))
 refine ⟨⟨?_,hh.lt,?_,?_,?_,hh.low,?_,?_,fun i q hq=>(by
  rw [rS] at hq;by_cases hc:id=i
  ·subst hc;exact hh.a7 _ _ ho
  ·simp only [hc,xh] at hq;exact hh.a7 _ _ hq)⟩,⟨hw.os,hw.tape,hw.output,by rw [hw.size];exact yr _,?_,fun _ h=>h,fun b hb=>aP b hb,fun b hb=> .inl hb,fun b hb=> .inl (alX hb),fun _ _ _ h=>h,fun b r hb=>?_⟩⟩
 rotate_right
 ·by_cases hc:b=p.b
  ·subst hc;exact hk r hb
  ·exact ⟨r,(hw.other b hc).trans hb⟩
 ·intro i q pi hi bN;rw [rS] at hi;by_cases hc:id=i
  ·subst hc;simp only [xm,ho,Option.isSome_some] at hi;injection hi with hi
   subst hi;exact h'
  ·simp only [hc,xh] at hi;refine rR (fun _ _ h=>h) (fun _ h=>h) aP (fun q' bK=>?_) (fun _ _ h=>h) (hh.obj i q pi hi bN);exact hw.other _ (fun e=>hc (hh.inj i id q o q' p hi ho bK hm e).symm)
 ·intro i j oi oj pi pj hi hj bN gK e;have key:∀{i:Nat} {oi:Obj},az (bg hp id o') i=some oi->∃K8,az hp i=some K8:=by
   intro i oi hi;rw [rS] at hi;by_cases hc:id=i
   ·subst hc;exact ⟨o,ho⟩
   ·simp only [hc,xh] at hi;exact ⟨oi,hi⟩
  obtain ⟨K8,bL⟩:=key hi;obtain ⟨K7,GF⟩:=key hj;exact hh.inj i j K8 K7 pi pj bL GF bN gK e
 ·intro b hb;rw [hw.size];exact hh.slt b hb
 ·intro i q hq;rw [hw.size];exact hh.blt i q hq
 ·intro b hb
  rw [hw.other b (fun e=>by have:=hh.low id p hm;omega)];exact hh.iH b hb
 ·rw [hw.size];exact hh.fY
 ·intro b _ hb;exact hw.other b (fun e=>hb (e▸Ja ho hm))
def zT (O:bt) (m:Mp) (S:Nat->Prop) (w:yj) (a:Act) (hp:Hp) (ct:Nat) (o:y8) (v:AV) (ap:Hp) (bc:Nat):Prop:=
 ∃n u w' m' S',(execOp a.eval o).run O.P w= .ok n w'/\(n= .value u\/(n= .skip/\u=undef))/\aX O m' S' w' ap bc/\aj O.ai m' S' w' v u/\dD m m'/\ck m S w hp m' S' w' ap ct
def alY {ai:Nat->Nat} {v:AV} {u:yf} (h:aj ai m S w v u) (ho:bm v=true):u.oneCell'=true:=by
 cases v with
 | fn f a b=>
  cases f with
  | f g=>simp only [aj] at h;obtain ⟨_,_,rfl,_⟩:=h;rfl
  | y l=>simp only [aj] at h;obtain ⟨_,_,rfl⟩:=h;rfl
 | int k n=>simp only [aj] at h;subst h;rfl
 | bool b=>simp only [aj] at h;subst h;rfl
 | du k n=>simp only [aj] at h;subst h;rfl
 | str s=>simp only [aj] at h;obtain ⟨_,rfl,_⟩:=h;rfl
 | lk=>simp only [aj] at h;subst h;rfl
 | ptr i k=>simp only [aj] at h;obtain ⟨_,_,rfl⟩:=h;rfl
 | aQ cs=>simp only [aj] at h;obtain ⟨_,_,rfl,_⟩:=h;rfl
 | ab=>simp only [aj] at h;subst h;rfl
 | aJ e n cs=>simp only [aj] at h;rcases h with ⟨_,_,_,rfl,_⟩ | ⟨_,rfl,_,_⟩<;>rfl
 | bW _ _ _ _=>simp [bm] at ho
 | aC i k n=>simp only [aj] at h;obtain ⟨_,_,_,rfl,_⟩:=h;rfl
 | iS=>simp only [aj] at h;subst h;rfl
 | kH=>simp only [aj] at h;subst h;rfl
 | map i=>simp only [aj] at h;obtain ⟨_,_,rfl⟩:=h;rfl
 | jN ks vs=>simp only [aj] at h;obtain ⟨_,_,_,rfl,_⟩:=h;rfl
 | it i=>simp only [aj] at h;obtain ⟨_,_,rfl⟩:=h;rfl
 | agg cs=>simp [bm] at ho
 | au cs=>simp [bm] at ho
 | undef=>simp [bm] at ho
def MR {ai:Nat->Nat}:∀{vs:List AV} {us:List yf},av ai m S w vs us->bO vs=true->∀u∈us,u.oneCell'=true
 | [],us,h,_,u,hu=>by simp only [av] at h;subst h;cases hu
 | v::r,us,h,ho,u,hu=>by
  obtain ⟨u',t,rfl,h1,h2⟩:=h;simp only [bO,ye] at ho;rcases List.mem_cons.1 hu with rfl | hu
  ·exact alY h1 ho.1
  ·exact MR h2 ho.2 u hu
def aae {arr:Array yf} {t:yy} {p:Pl} {cs new:List AV} {vs:List yf} {o:Nat} {S':Nat->Prop} {m':Mp} (hb:w.heap[p.b]? =some (.cells arr t (0,0))) (hr:bT O.ai m S w cs p.b p.o)
  (hv:av O.ai m S w new vs) (hl:o+new.length<=cs.length) (hs:p.o+cs.length<=arr.size) {w':yj} (hm:dD m m') (hS:∀b,S b->S' b) (aP:fX S w w')
  (hw:w'.heap[p.b]? =some (.cells (arr.toList.take (p.o+o)++vs++arr.toList.drop (p.o+o+vs.length)).toArray t (0,0))):bT O.ai m' S' w' (over o new cs) p.b p.o:=by
 obtain ⟨us,h1,h2,h3⟩:=zy cs p.b p.o hr;have hvl:=jc _ _ hv;have h4:av O.ai m S w (over o new cs) (us.take o++vs++us.drop (o+new.length)):=mg (mg (EW o h1) hv) (IC _ h1);refine E0 _ _ _ (iA hm hS aP _ _ h4) (fun j u hj=>?_);have su:∀k u,us[k]? =some u->arr[p.o+k]? =some u:=by
  intro k u hk
  have:=h3 k u hk
  simpa [World.cell?,hb] using this
 simp only [World.cell?,hw,tK,yF,xh];rw [tG];have e1:(arr.toList.take (p.o+o)).length=p.o+o:=by rw [yQ,vL];omega
 have e2:(us.take o).length=o:=by rw [yQ];omega
 by_cases c1:j<o
 ·have g1:(us.take o++vs++us.drop (o+new.length))[j]? =us[j]? :=by
   rw [xF,xY (by omega),vU c1]
  rw [g1] at hj;rw [xF,xY (by omega),vU (by omega)];simpa using su j u hj
 ·by_cases c2:j<o+vs.length
  ·have g1:(us.take o++vs++us.drop (o+new.length))[j]? =vs[j-o]? :=by
    rw [xF,xJ (by omega),e2,xY (by omega)]
   rw [g1] at hj;rw [xF,xJ (by omega),e1,xY (by omega),show p.o+j-(p.o+o)=j-o by omega];exact hj
  ·have g1:(us.take o++vs++us.drop (o+new.length))[j]? =us[j]? :=by
    rw [xF,xJ (by omega),e2,xJ (by omega),tV]
    congr 1
    omega
   rw [g1] at hj;rw [xF,xJ (by omega),e1,xJ (by omega),tV,show p.o+o+vs.length+(p.o+j-(p.o+o)-vs.length)=p.o+j by omega];simpa using su j u hj
def M8 {o:Nat} {new cs:List AV} (hl:o+new.length<=cs.length):(over o new cs).length=cs.length:=by
 simp only [over,yW,yQ,wi];omega
def YI {o:Nat} {new cs:List AV} (h:aH cs=true) (h':aH new=true):aH (over o new cs)=true:=
 EO (EO (CE _ h) h') (AW _ _ h)
def aoh {o:y8} {t:yy} {x y:xy} {sz:Nat} {v:AV} {ap:Hp} {bc:Nat} (hH:fN O H) (ht:cd O m S w tm a.tmps) (hh:aX O m S w hp ct)
  (ho:o.op= .store t x y) (hz:cL O.P t=some sz) (hv:db tm hp ct (.st sz (aS H x) (aS H y))=some (v,ap,bc)):zT O m S w a hp ct o v ap bc:=by
 simp only [db] at hv;have rx:=cF hH ht x;cases hx:aA tm (aS H x)<;>rw [hx] at hv rx<;>simp only [reduceCtorEq] at hv
 rename_i id k;simp only [aj] at rx;obtain ⟨p,hm,ex⟩:=rx
 split at hv
 case h_2=>cases hv
 rename_i pu PU z cs hg
 cases hc:(yv (cellsOf (aA tm (aS H y))).length sz&&yE (k+sz) cs.length&&bO (cellsOf (aA tm (aS H y)))) with
 | false=>rw [hc] at hv;cases hv
 | true=>
  rw [hc] at hv;simp only [yz,yc,yq] at hv;obtain ⟨rfl,rfl,rfl⟩:=hv;simp only [ye] at hc;have c1:=yo hc.1.1;have c2:=yu hc.1.2;have ry:=RN (cF hH ht y) hc.2;have hl:=jc _ _ ry;obtain ⟨p',arr,t',g1,g2,g3,g4,g5,g6,g7,g8,g9,g10⟩:=hh.obj id _ _ hg hm;rw [hm] at g1;injection g1 with g1
  subst g1;have fO:=MR ry hc.2;have gS:=run_storeCells_at O.P p.b (p.o+k) t' (a.eval y).cells.toList 0 arr w g2 (by rw [hl];omega) fO;simp only [y7] at gS;have ath:(a.eval y).cells.size=sz:=by simp_all
  have oI:fH O m S (w.setRow p.b (arr.toList.take (p.o+k)++(a.eval y).cells.toList++arr.toList.drop (p.o+k+(a.eval y).cells.toList.length)).toArray) id
    (.cells true (pu&&aH (cellsOf (aA tm (aS H y)))) PU z (over k (cellsOf (aA tm (aS H y))) cs)):=by
   refine ⟨p,_,t',hm,setRow_heap w p.b arr _ t' _ g2,g3,by rw [M8 (by omega)];exact g4,?_,fun h=>by rw [M8 (by omega)];exact g6 h,?_,?_,fun _=>g9 rfl,by simp⟩
   ·grind
   ·exact aae g2 g7 ry (by omega) (by omega) dD.refl (fun _ h=>h) (fun b hb=>setRow_other w p.b b _ (fun e=>g9 rfl (e▸hb))) (setRow_heap w p.b arr _ t' _ g2)
   ·intro h;simp only [ye] at h;exact YI (g8 h.1) h.2
  obtain ⟨e1,e2⟩:=IP hh hg hm (g9 rfl) (RA w p.b _) oI (fun r hr=>by rw [g2] at hr;cases hr);refine ⟨.skip,undef,_,m,S,?_,.inr ⟨rfl,rfl⟩,e1,by simp [aj,av,undef],dD.refl,e2⟩;simp only [execOp,ho,Instr.storeAt,ex,Instr.sureAddr,Sem.run_bind,Sem.run_pure,Result.andThen_ok,storeVar,nV hz,ath,yaS,ui,xh];simp [gS]
def YJ {d:vj} {k k':yf} (h:Instr.sameNow d k k'=some true):k=k':=by
 unfold Instr.sameNow at h
 split at h
 ·grind
 ·rename_i p q;simp only [yc] at h;have h2:(p.data==q.data)=true:=by cases p;exact h
  cases p;cases q
  grind
 ·grind
 ·cases h
def sameBits_self {d:vj} {k k':yf} (h:Instr.sameNow d k k'=some true) (n:Nat):Instr.sameBits n k' k=true:=by
 have e:=YJ h;subst e;unfold Instr.sameNow at h
 split at h
 ·simp [Instr.sameBits]
 ·simp only [yc] at h;simp [Instr.sameBits,h]
 ·simp [Instr.sameBits]
 ·cases h
def Put (ai:Nat->Nat) (m:Mp) (S:Nat->Prop) (w:yj) (d:vj) (k x:yf) (es:List uv) (i:Nat) (iW dL:List AV):Prop:=
 (Instr.findNow d k es i=some none/\av ai m S w iW (es.map (·.key)++[k])/\av ai m S w dL (es.map (·.val)++[x]))\/
 ∃(j:Nat) (e0:uv),Instr.findNow d k es i=some (some (i+j,e0.val))/\es[j]? =some e0/\Instr.sameNow d k e0.key=some true/\av ai m S w iW (es.map (·.key))/\av ai m S w dL ((es.map (·.val)).set j x)
def aa8 {ai:Nat->Nat} {vk vx:AV} {k x:yf} {d:vj} (hk:aj ai m S w vk k) (hx:aj ai m S w vx x) (hd:fits d vk=true):∀(ks vs:List AV) (es:List uv) (i:Nat) (iW dL:List AV),
  av ai m S w ks (es.map (·.key))->av ai m S w vs (es.map (·.val))->q9 vk vx ks vs=some (iW,dL)->Put ai m S w d k x es i iW dL
 | [],[],es,i,iW,dL,h1,h2,h=>by
  simp only [av,List.map_eq_nil_iff] at h1;subst h1;obtain ⟨rfl,rfl⟩:=h;exact .inl ⟨rfl,by simp [av,hk],by simp [av,hx]⟩
 | [],_::_,es,i,iW,dL,h1,h2,h=>by simp [q9] at h
 | _::_,[],es,i,iW,dL,h1,h2,h=>by simp [q9] at h
 | c::ks,v::vs,es,i,iW,dL,h1,h2,h=>by
  cases es with
  | nil=>simp [av] at h1
  | cons e es=>
   obtain ⟨u,t,⟨rfl,rfl⟩,hc,PT⟩:=h1;obtain ⟨u',t',⟨rfl,rfl⟩,hv,Av⟩:=h2;simp only [q9] at h
   cases Aw:so vk c with
   | none=>simp [Aw] at h
   | some b=>
    have hs:=aaa (d:=d) hk hc Aw hd
    cases b with
    | true=>
     simp only [Aw,yc,yq] at h;obtain ⟨rfl,rfl⟩:=h;refine .inr ⟨0,e,by simp [Instr.findNow,hs],rfl,hs,?_,?_⟩
     ·simp only [yV,av];exact ⟨_,_,rfl,hc,PT⟩
     ·simp only [yV,List.set_cons_zero,av];exact ⟨_,_,rfl,hx,Av⟩
    | false=>
     simp only [Aw] at h
     cases hm:q9 vk vx ks vs with
     | none=>simp [hm] at h
     | some q=>
      obtain ⟨k1,v1⟩:=q;simp only [hm,yc,yq] at h;obtain ⟨rfl,rfl⟩:=h;rcases aa8 hk hx hd ks vs es (i+1) k1 v1 PT Av hm with ⟨g1,g2,g3⟩ | ⟨j,e0,g1,g2,g3,g4,g5⟩
      ·refine .inl ⟨by simp [Instr.findNow,hs,g1],?_,?_⟩
       ·simp only [yV,xu,av];exact ⟨_,_,rfl,hc,g2⟩
       ·simp only [yV,xu,av];exact ⟨_,_,rfl,hv,g3⟩
      ·refine .inr ⟨j+1,e0,?_,by simpa using g2,g3,?_,?_⟩
       ·simp only [Instr.findNow,hs,g1]
        grind
       ·simp only [yV,av];exact ⟨_,_,rfl,hc,g4⟩
       ·simp only [yV,List.set_cons_succ,av];exact ⟨_,_,rfl,hv,g5⟩
def ET (w:yj) (g:Nat) (o:yaQ):One w {w with heap:=w.heap.setIfInBounds g o} g:=
 ⟨rfl,rfl,rfl,by simp,fun b hb=>by simp [Array.getElem?_setIfInBounds_ne (fun e=>hb e.symm)]⟩
def MD {g:Nat} {o q:yaQ} (h:w.heap[g]? =some q):({w with heap:=w.heap.setIfInBounds g o}:yj).heap[g]? =some o:=by grind
def aaf {o:y8} {t kt e:yy} {x k y:xy} {kk:Nat} {v:AV} {ap:Hp} {bc:Nat} (hH:fN O H) (ht:cd O m S w tm a.tmps) (hh:aX O m S w hp ct)
  (ho:o.op= .mapUpdate t x k y\/o.op= .insert t x k y) (hu:O.P.underlying t=some (.map kt e)) (sY:VE.keyOf O.P kt=some kk) (hv:db tm hp ct (.mS kk (aS H x) (aS H k) (aS H y))=some (v,ap,bc)):zT O m S w a hp ct o v ap bc:=by
 simp only [db] at hv;have rx:=cF hH ht x;cases hx:aA tm (aS H x)<;>rw [hx] at hv rx<;>simp only [reduceCtorEq] at hv
 rename_i id;simp only [aj] at rx;obtain ⟨p,hm,ex⟩:=rx
 split at hv
 case h_2=>cases hv
 rename_i ks vs hg
 cases hc:qR kk (aA tm (aS H k)) with
 | false=>simp [hc] at hv
 | true=>
  simp only [hc,Bool.not_true,yO] at hv
  cases bB:q9 (aA tm (aS H k)) (aA tm (aS H y)) ks vs with
  | none=>simp [bB] at hv
  | some q=>
   obtain ⟨iW,dL⟩:=q;simp only [bB,yc,yq] at hv;obtain ⟨rfl,rfl,rfl⟩:=hv;obtain ⟨d,kK,fT,Wb⟩:=YF sY hc;obtain ⟨p',es,clock,g1,g2,g3,g4,g5,g6⟩:=hh.obj id _ _ hg hm;rw [hm] at g1;injection g1 with g1
   subst g1;have au6:=aa8 (d:=d) (cF hH ht k) (cF hH ht y) Wb ks vs es.toList 0 iW dL g3 g4 bB
   have fin:∀(Ec:Array uv) (c':Nat),(Instr.mapUpdate t (a.eval x) (a.eval k) (a.eval y)).run O.P w= .ok () {w with heap:=w.heap.setIfInBounds p.b (.map Ec c')}->
     av O.ai m S w iW (Ec.toList.map (·.key))->av O.ai m S w dL (Ec.toList.map (·.val))->zT O m S w a hp ct o (.au []) (bg hp id (.mp true iW dL)) ct:=by
    intro Ec c' gS h1 h2
    have aP:fX S w {w with heap:=w.heap.setIfInBounds p.b (.map Ec c')}:=fun b hb=>(ET w p.b _).other b (fun e=>g5 rfl (e▸hb))
    have oI:fH O m S {w with heap:=w.heap.setIfInBounds p.b (.map Ec c')} id (.mp true iW dL):=
     ⟨p,Ec,c',hm,MD g2,iA (fun _ _ h=>h) (fun _ h=>h) aP _ _ h1,iA (fun _ _ h=>h) (fun _ h=>h) aP _ _ h2,fun _=>g5 rfl,by simp⟩
    obtain ⟨e1,e2⟩:=IP hh hg hm (g5 rfl) (ET w p.b _) oI (fun r hr=>by rw [g2] at hr;cases hr);refine ⟨.skip,undef,_,m,S,?_,.inr ⟨rfl,rfl⟩,e1,by simp [aj,av,undef],dD.refl,e2⟩;rcases ho with ho | ho<;>simp [execOp,ho,gS]
   have rA:=Ms (P:=O.P) (w:=w) kK fT false (a.eval k);rcases au6 with ⟨h1,h2,h3⟩ | ⟨j,e0,h1,h2,h3,h4,h5⟩
   ·refine fin (es.push ⟨a.eval k,a.eval y,clock⟩) (clock+1) ?_ (by simpa using h2) (by simpa using h3);rw [ex];simp [Instr.mapUpdate,run_underlying hu,MapKept.run_getObj_map g2,rA,Instr.findKey,run_underlying kK,h1,MapKept.run_setObj_map _ g2]
   ·have hj:es[j]? =some e0:=by simp_all
    simp only [yd] at h1;have afg:=YJ h3
    refine fin (es.modify j fun e=>{e with key:=a.eval k,val:=a.eval y}) clock ?_ ?_ ?_
    ·rw [ex];have Lb:Instr.sameBits 10000 (a.eval k) (a.eval k)=true:=by have:=sameBits_self h3 10000;rwa [<-afg] at this
     simp [Instr.mapUpdate,run_underlying hu,MapKept.run_getObj_map g2,rA,Instr.findKey,run_underlying kK,h1,MapKept.run_setObj_map _ g2,hj,Instr.keyThatStays,Lb,afg.symm]
    ·have:(es.modify j fun e=>{e with key:=a.eval k,val:=a.eval y}).toList.map (·.key)=es.toList.map (·.key):=by
      apply tZ
      grind
     grind
    ·have:(es.modify j fun e=>{e with key:=a.eval k,val:=a.eval y}).toList.map (·.val)=(es.toList.map (·.val)).set j (a.eval y):=by
      apply tZ
      grind
     grind
def aoi (t:ByteArray) (i:Nat):(t.get! i).toNat=(t.data.toList.map y9).getD i 0:=by
 have:t.get! i=t.data[i]! :=by cases t;rfl
 rw [this];by_cases h:i<t.data.size
 ·grind
 ·simp only [Array.getElem!_eq_getD,Array.getD_eq_getD_getElem?,List.getD_eq_getElem?_getD,List.getElem?_map,Array.getElem?_toList];rw [Array.getElem?_eq_none (by omega)];rfl
def aj7 (t:ByteArray) (i:Nat):decodeL (t.data.toList.map y9) i=Utf8.decode t i:=by
 have eV:(t.data.toList.map y9).length=t.size:=by simp
 simp only [decodeL,Utf8.decode,aoi,eV]
def alZ {o:y8} {x:xy} {v:AV} {ap:Hp} {bc:Nat} (hH:fN O H) (ht:cd O m S w tm a.tmps) (hh:aX O m S w hp ct)
  (ho:o.op= .next x true) (hv:db tm hp ct (.pV (aS H x))=some (v,ap,bc)):zT O m S w a hp ct o v ap bc:=by
 simp only [db] at hv;have rx:=cF hH ht x;cases hx:aA tm (aS H x)<;>rw [hx] at hv rx<;>simp only [reduceCtorEq] at hv
 rename_i id;simp only [aj] at rx;obtain ⟨p,hm,ex⟩:=rx
 split at hv
 case h_2=>cases hv
 rename_i s pos hg;obtain ⟨p',t,g1,g2,g3,g4⟩:=hh.obj id _ _ hg hm;rw [hm] at g1;injection g1 with g1
 subst g1;have az:(getObj p.b).run O.P w= .ok (.stringIter t pos) w:=by simp [getObj,Sem.run,g2]
 have hlen:s.length=t.size:=by rw [<-g3];simp
 cases hc:yM pos s.length with
 | false=>
  rw [hc] at hv;simp only [yO,yc,yq] at hv;obtain ⟨rfl,rfl,rfl⟩:=hv;have a7:¬pos<t.size:=by
   intro h
   have:yM pos s.length=true:=by simp [yM];omega
   grind
  refine ⟨.value (.tuple #[.bool false]),.tuple #[.bool false],w,m,S,?_,.inl rfl,hh,by simp [aj,av],dD.refl,ck.refl⟩;simp [execOp,ho,ex,Instr.next,az,a7]
 | true=>
  rw [hc] at hv;simp only [yz] at hv;have a7:pos<t.size:=by
   simp_all
  cases hdc:decodeL s pos with | mk c wd=>
  rw [hdc] at hv;simp only [yc,yq] at hv;obtain ⟨rfl,rfl,rfl⟩:=hv;have hd:Utf8.decode t pos=(c,wd):=by rw [<-aj7,g3,hdc]
  have oI:fH O m S {w with heap:=w.heap.setIfInBounds p.b (.stringIter t (pos+wd))} id (.si s (pos+wd)):=⟨p,t,hm,MD g2,g3,g4⟩;obtain ⟨e1,e2⟩:=IP hh hg hm g4 (ET w p.b _) oI (fun r hr=>by rw [g2] at hr;cases hr);refine ⟨.value (.tuple #[.bool true,goInt pos,.int .i32 c]),_,_,m,S,?_,.inl rfl,e1,by simp [aj,av,goInt],dD.refl,e2⟩
  have bg:(setObj p.b (.stringIter t (pos+wd))).run O.P w= .ok () {w with heap:=w.heap.setIfInBounds p.b (.stringIter t (pos+wd))}:=by simp [setObj,Sem.run,g2]
  simp [execOp,ho,ex,Instr.next,az,a7,hd,bg]
end
end
section
open Go
def ID {hp:Hp} {id i:Nat}:az (eG hp id) i=if id=i then none else az hp i:=by
 induction hp with
 | nil=>simp [eG,az]
 | cons x r ih=>
  obtain ⟨j,q⟩:=x;simp only [eG];by_cases hj:j=id
  ·subst hj;simp only [vm,yz,ih,az];by_cases hi:j=i
   ·grind
   ·have:yv j i=false:=by
     cases hq:yv j i with
     | false=>rfl
     | true=>exact absurd (yo hq) hi
    grind
  ·have hb:yv j id=false:=by
    cases hq:yv j id with
    | false=>rfl
    | true=>exact absurd (yo hq) hj
   simp only [hb,yO];rw [show az ((j,q)::eG r id) i=bif yv j i then some q else az (eG r id) i from rfl,ih];by_cases hi:j=i
   ·subst hi
    have:¬id=j:=fun h=>hj h.symm
    simp [vm,this,az]
   ·have zb:yv j i=false:=by
     cases hq:yv j i with
     | false=>rfl
     | true=>exact absurd (yo hq) hi
    simp [zb,az]
section
variable {O:bt} {H:Hint} {m:Mp} {S:Nat->Prop} {w:yj} {tm:Env} {a:Act} {hp:Hp} {ct:Nat}
def Src (P:xi) (w:yj) (size n:Nat) (news:List yf) (x:yf):Prop:=
 (∀w',(Builtin.lenOf x).run P w'= .ok n w')/\news.length=n*size/\
 ∀w',w'.heap=w.heap->∀k,k<=n->(Builtin.firstCells size k x).run P w'= .ok (news.take (k*size)).toArray w'
def IE {P:xi} {size n c:Nat} {b:Addr} {news:List yf} (hl:news.length=n*size) (hc:∀j u,news[j]? =some u->w.cell? (b.add j)=some u):
  Src P w size n news (.slice (some b) n c):=by
 refine ⟨fun w'=>by simp [Builtin.lenOf],hl,fun w' hw k hk=>?_⟩;have hle:k*size<=news.length:=by rw [hl];exact yX _ hk
 refine run_firstCells_some (P:=P) w' size k b n c (news.take (k*size)) (by rw [yQ];omega) (fun j v hv=>?_);rw [List.getElem?_take] at hv
 split at hv
 ·have:=hc j v hv
  simpa [World.cell?,hw] using this
 ·cases hv
def aa9 {P:xi} {size:Nat}:Src P w size 0 [] (.slice none 0 0):=
 ⟨fun w'=>by simp [Builtin.lenOf],by simp,fun w' _ k hk=>by simp [Builtin.firstCells]⟩
def ajc (s:ByteArray) (k:Nat):(s.extract 0 k).data.map (fun b=>Value.int .u8 b.toNat)=((s.data.toList.map fun b=>Value.int .u8 (b.toNat:Int)).take k).toArray:=by
 have:(s.extract 0 k).data=s.data.extract 0 k:=by simp
 grind
def aoj {P:xi} {s:ByteArray}:Src P w 1 s.size (s.data.toList.map fun b=>Value.int .u8 (b.toNat:Int)) (.string s):=by
 refine ⟨fun w'=>by simp [Builtin.lenOf],by simp,fun w' _ k hk=>?_⟩;simp only [Builtin.firstCells,Sem.run_pure,Nat.mul_one];rw [ajc]
def Yl {ai:Nat->Nat}:∀l:List UInt8,av ai m S w (Nt (l.map y9)) (l.map fun b=>Value.int .u8 (b.toNat:Int))
 | []=>by simp [Nt,av]
 | b::r=>by
  exact ⟨_,_,rfl,by simp [aj],Yl r⟩
def YK {size n:Nat} {vx:AV} {x:yf} {cs:List AV} (hh:aX O m S w hp ct) (hx:aj O.ai m S w vx x) (h:qQ hp size vx=some (n,cs)):
  ∃us,av O.ai m S w cs us/\Src O.P w size n us x:=by
 cases vx<;>simp only [qQ,reduceCtorEq] at h
 case ab=>
  obtain ⟨rfl,rfl⟩:=h;subst hx;exact ⟨[],by simp [av],aa9⟩
 case aJ ex n' ej=>
  cases hc:yv ej.length (n'*size) with
  | false=>rw [hc] at h;cases h
  | true=>
   rw [hc] at h;obtain ⟨rfl,rfl⟩:=h;have hl:=yo hc;rcases hx with ⟨b,o,c,rfl,h1,h2,h3,h4,h5⟩ | ⟨ad,rfl,rfl,rfl⟩
   ·obtain ⟨us,g1,g2,g3⟩:=zy _ b o h5;exact ⟨us,g1,IE (by omega) (fun j u hj=>by rw [py];exact g3 j u hj)⟩
   ·exact ⟨[],by simp [av],IE (by simp) (fun j u hj=>by simp at hj)⟩
 case aC id o n'=>
  cases hg:az hp id with
  | none=>simp [hg] at h
  | some ob=>
   cases ob<;>simp only [hg,reduceCtorEq] at h
   rename_i rw pu ex z ej
   cases hc:yE (o+n'*size) ej.length with
   | false=>rw [hc] at h;cases h
   | true=>
    rw [hc] at h;simp only [yz,yc,yq] at h;obtain ⟨rfl,rfl⟩:=h;have hl:=yu hc;obtain ⟨p,c,hm,rfl,h1,h2⟩:=hx;have hr:=Sf (o:=0) (n:=0) hh hg hm;have ep:=CH (n'*size) _ _ _ (rP o _ _ _ hr);obtain ⟨us,g1,g2,g3⟩:=zy _ p.b (p.o+o) ep;refine ⟨us,g1,IE ?_ (fun j u hj=>by rw [py];exact g3 j u hj)⟩
    grind
def aj8 {size n:Nat} {vx:AV} {x:yf} {cs:List AV} (hh:aX O m S w hp ct) (hx:aj O.ai m S w vx x) (h:zK hp size vx=some (n,cs)):
  ∃us,av O.ai m S w cs us/\Src O.P w size n us x:=by
 cases vx<;>try exact YK hh hx h
 simp only [zK] at h
 cases hc:yv size 1 with
 | false=>rw [hc] at h;cases h
 | true=>
  rw [hc] at h;obtain ⟨rfl,rfl⟩:=h
  have:=yo hc
  subst this;obtain ⟨t,rfl,rfl⟩:=hx;refine ⟨_,Yl _,?_⟩
  have:(List.map y9 t.data.toList).length=t.size:=by simp
  rw [this];exact aoj
def aix {P:xi} {t u ty e:yy} {i:ybJ} (ht:P.underlying t=some (.slice e)) (hu:(∃e',P.underlying u=some (.slice e'))\/P.underlying u=some .string) (hi:P.info? e=some i)
  {g o iT rb:Nat} {Lc:Array yf} {te:yy} (hg:w.heap[g]? =some (.cells Lc te (0,0))) {x:yf} {n:Nat} {news:List yf} (hs:Src P w i.size n news x) (h1:∀u∈news,u.oneCell'=true)
  (FP:iT+n<=rb) (oe:o+iT*i.size+news.length<=Lc.size):
  (Builtin.append_ #[t,u] ty #[.slice (some ⟨g,o,none⟩) iT rb,x]).run P w=
   .ok (.slice (some ⟨g,o,none⟩) (iT+n) rb) (w.setRow g (Lc.toList.take (o+iT*i.size)++news++Lc.toList.drop (o+iT*i.size+news.length)).toArray):=by
 obtain ⟨lW,AD,Wg⟩:=hs;have hf:=Wg w rfl n (yr _);rw [yp (by omega)] at hf;have aP:=run_storeCells_at P g (o+iT*i.size) te news 0 Lc w hg (by omega) h1;rcases hu with ⟨e',hd⟩ | hd<;>
  simp [Builtin.append_,run_underlying ht,run_underlying hd,vI,typeInfo,hi,lW,FP,hf,py,aP]
def Rc {P:xi} {t u ty e:yy} {i:ybJ} {z:yf} (ht:P.underlying t=some (.slice e)) (hu:(∃e',P.underlying u=some (.slice e'))\/P.underlying u=some .string) (hi:P.info? e=some i) (hz:i.zero=some z)
  {s:yf} {base:Option Addr} {iT rb:Nat} (es:s= .slice base iT rb) {nD:List yf} (ho:Src P w i.size iT nD s) {x:yf} {n:Nat} {news:List yf} (hs:Src P w i.size n news x)
  (hg:rb<iT+n) (PV:iT+n<=1099511627776) (Wf:(iT+n)*i.bytes<=1099511627776):
  (Builtin.append_ #[t,u] ty #[s,x]).run P w=
   .ok (.slice (some ⟨w.heap.size,0,none⟩) (iT+n) (grownCap w (iT+n) rb e))
    (w.drew.alloc (.cells ((nD++news).toArray++Builtin.zeroCells z.cells (grownCap w (iT+n) rb e-(iT+n))) e)):=by
 obtain ⟨lW,AD,Wg⟩:=hs;obtain ⟨ho1,Wh,ho3⟩:=ho;have hf:=Wg w.drew rfl n (yr _);rw [yp (by omega)] at hf;have hfo:=ho3 w.drew rfl iT (yr _);have hn:¬(iT+n<=rb):=by omega
 have au7:¬(9223372036854775807<((iT:Int)+(n:Int))):=by omega
 have oe:=growslice_fits (need:=iT+n) (old:=rb) (bytes:=i.bytes) hg (by omega);have au8:¬(281474976710656<Builtin.nextslicecap (iT+n) rb*i.bytes):=by omega
 subst es;rcases hu with ⟨e',hd⟩ | hd
 all_goals
  simp [Builtin.append_,run_underlying ht,run_underlying hd,vI,typeInfo,zeroValue,hi,hz,lW,hn,au7,au8,Question.forced,hf,hfo,newRow,askRoom,grownCap]
  grind
def RR {e:yy} {z:yf} {sz need cap:Nat} {cs:List AV} {us:List yf} (hh:aX O m S w hp ct) (hr:av O.ai m S w cs us) (hl:us.length=need*sz) (hz:z.cells.size=sz)
  (N7:Bool) (hpp:N7=true->aH cs=true) (hc:need<=cap):
  let w':=w.drew.alloc (.cells (us.toArray++Builtin.zeroCells z.cells (cap-need)) e)
  let p:Pl:=⟨w.heap.size,0,cap*sz,sz⟩
  ∀m',dD m m'->m' ct=some p->fH O m' S w' ct (.cells true N7 false sz cs):=by
 intro w' p m' hm hi;have aP:fX S w w':=fun b hb=>by
  have:=hh.slt b hb
  exact RowKit.Below.heap_alloc w.drew _ b (by simpa using this)
 have lR:w'.heap[w.heap.size]? =some (.cells (us.toArray++Builtin.zeroCells z.cells (cap-need)) e (0,0)):=heap_alloc_new w.drew _;have lG:=jc _ _ hr;refine ⟨p,_,e,hi,lR,rfl,?_,?_,by simp,?_,hpp,?_,by simp⟩
 ·show cs.length<=cap*sz
  rw [<-lG,hl];exact yX _ hc
 ·show 0+cap*sz<=_
  rw [Array.size_append,uH,size_zeroCells,hz,hl,<-xH]
  grind
 ·refine RO lR cs us 0 (iA hm (fun _ h=>h) aP _ _ hr) (fun j u hj=>?_)
  grind
 ·intro _ hS
  have:=hh.slt _ hS
  grind
def aik (hh:aX O m S w hp ct) (g:yaQ):fX S w (w.drew.alloc g):=fun b hb=>by
 have:=hh.slt b hb
 exact RowKit.Below.heap_alloc w.drew _ b (by simpa using this)
def RS (hh:aX O m S w hp ct) {hp0:Hp} {g:yaQ} {p:Pl} {o:Obj} (OI:∀i q,az hp0 i=some q->az hp i=some q) (hb:p.b=w.heap.size)
  (ho:∀m',dD m m'->m' ct=some p->fH O m' S (w.drew.alloc g) ct o):
  aX O (fI m ct p) S (w.drew.alloc g) ((ct,o)::hp0) (ct+1)/\ck m S w hp (fI m ct p) S (w.drew.alloc g) ((ct,o)::hp0) ct:=by
 have hn:m ct=none:=by
  cases h:m ct with
  | none=>rfl
  | some q=>have:=hh.lt _ _ h;omega
 have hle:=kQ hn (p:=p);have aP:=aik hh g;have hold:∀b,b<w.heap.size->(w.drew.alloc g).heap[b]? =w.heap[b]? :=fun b hb=>RowKit.Below.heap_alloc w.drew _ b (by simpa using hb)
 have eV:(w.drew.alloc g).heap.size=w.heap.size+1:=by simp
 have iM:∀i q,az ((ct,o)::hp0) i=some q->i≠ct->az hp i=some q:=fun i q h hi=>by
  rw [iB,yA (fun e=>hi e.symm)] at h
  grind
 refine ⟨⟨?_,?_,?_,?_,?_,?_,?_,?_,fun i q hq=>(by
  by_cases hc:i=ct
  ·omega
  ·have:=hh.a7 _ _ (iM i q hq hc);omega)⟩,⟨rfl,rfl,rfl,by omega,?_,fun _ h=>h,fun b hb=>aP b hb,fun b hb=> .inl hb,?_,fun i q _ h=>hle i q h,fun b r hb=>⟨r,(hold b (xv.1 hb).1).trans hb⟩⟩⟩
 ·intro i q pi hi bN;by_cases hc:i=ct
  ·subst hc;rw [iB] at hi;simp only [xm,yc] at hi;subst hi;exact ho _ hle eE
  ·rw [eD hc] at bN;exact rR hle (fun _ h=>h) aP (fun q' bK=>hold _ (hh.blt i q' bK)) (fun _ _ h=>h) (hh.obj i q pi (iM i q hi hc) bN)
 ·intro i q bN;by_cases hc:i=ct
  ·omega
  ·rw [eD hc] at bN;have:=hh.lt i q bN;omega
 ·intro i j oi oj pi pj hi hj bN gK e;by_cases ci:i=ct
  ·by_cases cj:j=ct
   ·grind
   ·subst ci;rw [eE] at bN;rw [eD cj] at gK;injection bN with bN
    subst bN
    have:=hh.blt j pj gK
    omega
  ·rw [eD ci] at bN;by_cases cj:j=ct
   ·subst cj;rw [eE] at gK;injection gK with gK
    subst gK
    have:=hh.blt i pi bN
    omega
   ·rw [eD cj] at gK;exact hh.inj i j oi oj pi pj (iM i oi hi ci) (iM j oj hj cj) bN gK e
 ·intro b hb;have:=hh.slt b hb;omega
 ·intro i q bN;by_cases hc:i=ct
  ·subst hc;rw [eE] at bN;injection bN with bN
   subst bN;omega
  ·rw [eD hc] at bN;have:=hh.blt i q bN;omega
 ·intro i q bN;have h0:=hh.fY;by_cases hc:i=ct
  ·subst hc;rw [eE] at bN;injection bN with bN
   subst bN;omega
  ·rw [eD hc] at bN;exact hh.low i q bN
 ·intro b hb;have h0:=hh.fY;exact (hold b (by omega)).trans (hh.iH b hb)
 ·have h0:=hh.fY;omega
 ·intro b hb _;exact hold b hb
 ·rintro b ⟨i,q,pi,h1,h2,h3⟩;by_cases hc:i=ct
  ·subst hc;rw [eE] at h2;injection h2 with h2
   subst h2;exact .inr (by omega)
  ·rw [eD hc] at h2;exact .inl ⟨i,q,pi,iM i q h1 hc,h2,h3⟩
def aj9 (hh:aX O m S w hp ct) {id:Nat} {o o':Obj} {p p':Pl} {w':yj} (hg:az hp id=some o) (hm:m id=some p) (hn:¬S p.b) (hw:One w w' p.b) (hk:∀r:uG,w.heap[p.b]? =some (.loop r)->∃r':uG,w'.heap[p.b]? =some (.loop r')) (hb:p'.b=p.b)
  (ho:∀m',dD m m'->m' ct=some p'->fH O m' S w' ct o'):
  aX O (fI m ct p') S w' ((ct,o')::eG hp id) (ct+1)/\ck m S w hp (fI m ct p') S w' ((ct,o')::eG hp id) ct:=by
 have gW:m ct=none:=by
  cases h:m ct with
  | none=>rfl
  | some q=>have:=hh.lt _ _ h;omega
 have hle:=kQ gW (p:=p');have aP:fX S w w':=fun b hb=>hw.other b (fun e=>hn (e▸hb))
 have iM:∀i q,az ((ct,o')::eG hp id) i=some q->i≠ct->az hp i=some q/\i≠id:=fun i q h hi=>by
  rw [iB,yA (fun e=>hi e.symm),ID] at h
  grind
 have afh:∀i q pi,az hp i=some q->i≠id->m i=some pi->pi.b≠p.b:=fun i q pi h hi bN e=>hi (hh.inj i id q o pi p h hg bN hm e)
 refine ⟨⟨?_,?_,?_,?_,?_,?_,?_,?_,fun i q hq=>(by
  by_cases hc:i=ct
  ·omega
  ·have:=hh.a7 _ _ (iM i q hq hc).1;omega)⟩,⟨hw.os,hw.tape,hw.output,by rw [hw.size];exact yr _,?_,fun _ h=>h,fun b hb=>aP b hb,fun b hb=> .inl hb,?_,fun i q _ h=>hle i q h,fun b r hb=>(by
  by_cases hc:b=p.b
  ·grind
  ·exact ⟨r,(hw.other b hc).trans hb⟩)⟩⟩
 ·intro i q pi hi bN;by_cases hc:i=ct
  ·subst hc;rw [iB] at hi;simp only [xm,yc] at hi;subst hi;exact ho _ hle eE
  ·rw [eD hc] at bN;obtain ⟨h1,h2⟩:=iM i q hi hc;exact rR hle (fun _ h=>h) aP (fun q' bK=>hw.other _ (afh i q q' h1 h2 bK)) (fun _ _ h=>h) (hh.obj i q pi h1 bN)
 ·intro i q bN;by_cases hc:i=ct
  ·omega
  ·rw [eD hc] at bN;have:=hh.lt i q bN;omega
 ·intro i j oi oj pi pj hi hj bN gK e;by_cases ci:i=ct
  ·by_cases cj:j=ct
   ·grind
   ·subst ci;rw [eE] at bN;rw [eD cj] at gK
    grind
  ·rw [eD ci] at bN;obtain ⟨h1,h2⟩:=iM i oi hi ci;by_cases cj:j=ct
   ·subst cj;rw [eE] at gK;injection gK with gK
    subst gK;exact (afh i oi pi h1 h2 bN (by rw [e,hb])).elim
   ·rw [eD cj] at gK;exact hh.inj i j oi oj pi pj h1 (iM j oj hj cj).1 bN gK e
 ·intro b hb;rw [hw.size];exact hh.slt b hb
 ·intro i q bN;rw [hw.size];by_cases hc:i=ct
  ·subst hc;rw [eE] at bN;injection bN with bN
   subst bN;rw [hb];exact hh.blt id p hm
  ·rw [eD hc] at bN;exact hh.blt i q bN
 ·intro i q bN;by_cases hc:i=ct
  ·subst hc;rw [eE] at bN;injection bN with bN
   subst bN;rw [hb];exact hh.low id p hm
  ·rw [eD hc] at bN;exact hh.low i q bN
 ·intro b hb
  rw [hw.other b (fun e=>by have:=hh.low id p hm;omega)];exact hh.iH b hb
 ·rw [hw.size];exact hh.fY
 ·intro b _ cR;exact hw.other b (fun e=>cR (e▸Ja hg hm))
 ·rintro b ⟨i,q,pi,h1,h2,h3⟩;by_cases hc:i=ct
  ·subst hc;rw [eE] at h2;injection h2 with h2
   subst h2;exact .inl ⟨id,o,p,hg,hm,by rw [<-h3,hb]⟩
  ·rw [eD hc] at h2;exact .inl ⟨i,q,pi,(iM i q h1 hc).1,h2,h3⟩
def aok {P:xi} {e:yy} {s cG:Nat} {z:AV} (hs:cL P e=some s) (hb:B0 P e=some cG) (hz:nv P e=some z):
  ∃ti zv,P.info? e=some ti/\ti.size=s/\ti.bytes=cG/\ti.zero=some zv/\z=eN zv:=by
 unfold cL at hs;unfold B0 at hb;unfold nv at hz
 cases hi:P.info? e with
 | none=>simp [hi] at hs
 | some ti=>
  simp only [hi,yc] at hs hb hz
  cases fe:ti.zero with
  | none=>simp [fe] at hz
  | some zv=>
   grind
def IQ {o:y8} {v:AV} {u:yf} {w':yj} {m':Mp} {S':Nat->Prop} {ap:Hp} {bc:Nat} (h1:(execOp a.eval o).run O.P w= .ok (.value u) w') (h2:aX O m' S' w' ap bc) (h3:aj O.ai m' S' w' v u)
  (h4:dD m m') (h5:ck m S w hp m' S' w' ap ct):zT O m S w a hp ct o v ap bc:=⟨_,u,w',m',S',h1,.inl rfl,h2,h3,h4,h5⟩
def al0 {o:y8} {b':yy} {t u e:yy} {sz cG:Nat} {z:AV} {x y:xy} {v:AV} {ap:Hp} {bc:Nat} (hH:fN O H) (ht:cd O m S w tm a.tmps) (hh:aX O m S w hp ct)
  (gS:(execOp a.eval o).run O.P w=((do pure (.value (<-Builtin.append_ #[t,u] b' #[a.eval x,a.eval y])):Sem yar)).run O.P w)
  (B6:O.P.underlying t=some (.slice e)) (hu:(∃e',O.P.underlying u=some (.slice e'))\/O.P.underlying u=some .string) (hs:cL O.P e=some sz) (hb:B0 O.P e=some cG) (hz:nv O.P e=some z) (Ay:(cellsOf z).length=sz)
  (hv:db tm hp ct (.cX sz cG (aS H x) (aS H y))=some (v,ap,bc)):zT O m S w a hp ct o v ap bc:=by
 simp only [db] at hv;obtain ⟨ti,zv,AA,rfl,rfl,Wi,rfl⟩:=aok hs hb hz;have aR:∀u' w',(Builtin.append_ #[t,u] b' #[a.eval x,a.eval y]).run O.P w= .ok u' w'->(execOp a.eval o).run O.P w= .ok (.value u') w':=fun u' w' h=>by
  rw [gS,Sem.run_bind,h];rfl
 have sA:m ct=none:=by
  cases h:m ct with
  | none=>rfl
  | some q=>have:=hh.lt _ _ h;omega
 have La:zv.cells.size=ti.size:=by
  have:=jc _ _ (EN (ai:=O.ai) (m:=m) (S:=S) (w:=w) zv)
  rw [<-Ay,<-this];simp
 cases DE:zK hp ti.size (aA tm (aS H y)) with
 | none=>simp [DE] at hv
 | some q=>
  obtain ⟨n,new⟩:=q;simp only [DE] at hv;obtain ⟨news,mT,ew⟩:=aj8 hh (cF hH ht y) DE;have PW:=jc _ _ mT;have rx:=cF hH ht x
  cases hx:aA tm (aS H x) with
  | ab=>
   rw [hx] at hv rx;simp only at hv;simp only [aj] at rx
   cases h0:yv n 0 with
   | true=>
    rw [h0] at hv;simp only [yz,yc,yq] at hv;obtain ⟨rfl,rfl,rfl⟩:=hv;have mU:=yo h0;subst mU;have TR:news=[]:=yD (by rw [ew.2.1];simp)
    subst TR;have hf:=ew.2.2 w rfl 0 (yr _);have jB:=ew.1 w;refine ⟨.value (.slice none 0 0),.slice none 0 0,w,m,S,?_,.inl rfl,hh,by simp [aj],dD.refl,ck.refl⟩;rw [gS,rx];rcases hu with ⟨e',hu⟩ | hu<;>
     simp [Builtin.append_,run_underlying B6,run_underlying hu,vI,typeInfo,AA,jB,hf]
   | false=>
    rw [h0] at hv;simp only [yO] at hv
    cases hc:(yE n room&&(yE (n*ti.bytes) room&&yM 0 ti.size)) with
    | false=>rw [hc] at hv;cases hv
    | true=>
     rw [hc] at hv;simp only [yz,yc,yq] at hv;obtain ⟨rfl,rfl,rfl⟩:=hv;simp only [ye] at hc;have c1:=yu hc.1;have c2:=yu hc.2.1;simp only [room] at c1 c2;have mU:0<n:=by
      rcases xt n with h | h
      ·subst h;simp at h0
      ·exact h
     have hr:=Rc (P:=O.P) (ty:=b') (w:=w) B6 hu AA Wi (s:= .slice none 0 0) rfl (aa9 (P:=O.P) (size:=ti.size)) ew (by omega) (by omega) (by simpa using c2);simp only [yd,List.nil_append] at hr;have lY:=grownCap_ge w n 0 e;have lR:=RR (e:=e) (z:=zv) (cap:=grownCap w n 0 e) hh mT (need:=n) (sz:=ti.size) ew.2.1 La (aH new) (fun h=>h) lY;obtain ⟨k1,k2⟩:=RS hh (hp0:=hp) (p:=⟨w.heap.size,0,grownCap w n 0 e*ti.size,ti.size⟩) (fun _ _ h=>h) rfl lR;exact IQ (aR _ _ (by rw [rx];exact hr)) k1 (by simp only [aj];exact ⟨_,_,eE,rfl,lY,by simp⟩) (kQ sA) k2
  | aJ ex k cs=>
   rw [hx] at hv rx
   cases ex with
   | false=>simp at hv
   | true=>
    simp only at hv;have rx0:=rx;simp only [aj] at rx;have rx1:∃ad nD,a.eval x= .slice (some ad) k k/\av O.ai m S w cs nD/\nD.length=cs.length/\(∀(j:Nat) (u:yf),nD[j]? =some u->w.cell? (ad.add j)=some u)/\aH cs=true:=by
     rcases rx with ⟨bb,oo,c,ex,h1,h2,h3,h4,h5⟩ | ⟨ad,ex,rfl,rfl⟩
     ·have rA:c=k:=h2 (by trivial);subst rA;obtain ⟨nD,g1,g2,g3⟩:=zy cs bb oo h5;exact ⟨_,nD,ex,g1,g2,fun j u hj=>by rw [py];exact g3 j u hj,h4⟩
     ·exact ⟨ad,[],ex,by simp [av],rfl,fun j u hj=>by simp at hj,rfl⟩
    obtain ⟨ad,nD,ex,g1,g2,g3,h4⟩:=rx1
    cases h0:yv n 0 with
    | true=>
     rw [h0] at hv;simp only [yz,yc,yq] at hv;obtain ⟨rfl,rfl,rfl⟩:=hv;have mU:=yo h0;subst mU;have TR:news=[]:=yD (by rw [ew.2.1];simp)
     subst TR;have hf:=ew.2.2 w rfl 0 (yr _);have jB:=ew.1 w;refine ⟨.value (a.eval x),a.eval x,w,m,S,?_,.inl rfl,hh,rx0,dD.refl,ck.refl⟩;rw [gS,ex];rcases hu with ⟨e',hu⟩ | hu<;>
      simp [Builtin.append_,run_underlying B6,run_underlying hu,vI,typeInfo,AA,jB,hf,storeCells]
    | false=>
     rw [h0] at hv;simp only [yO] at hv
     cases hc:(yE (k+n) room&&(yE ((k+n)*ti.bytes) room&&(yv cs.length (k*ti.size)&&yM 0 ti.size))) with
     | false=>rw [hc] at hv;cases hv
     | true=>
      rw [hc] at hv;simp only [yz,yc,yq] at hv;obtain ⟨rfl,rfl,rfl⟩:=hv;simp only [ye] at hc;have c1:=yu hc.1;have c2:=yu hc.2.1;have c3:=yo hc.2.2.1;simp only [room] at c1 c2;have mU:0<n:=by
       rcases xt n with h | h
       ·subst h;simp at h0
       ·exact h
      have Wj:Src O.P w ti.size k nD (.slice (some ad) k k):=IE (by omega) g3;have hr:=Rc (P:=O.P) (ty:=b') (w:=w) B6 hu AA Wi rfl Wj ew (by omega) c1 c2;have lY:=grownCap_ge w (k+n) k e;have lR:=RR (e:=e) (z:=zv) (cap:=grownCap w (k+n) k e) hh (mg g1 mT) (need:=k+n) (sz:=ti.size) (by rw [yW,g2,c3,ew.2.1,xH]) La (aH cs&&aH new)
       (fun h=>by simp only [ye] at h;exact EO h.1 h.2) lY
      obtain ⟨k1,k2⟩:=RS hh (hp0:=hp) (p:=⟨w.heap.size,0,grownCap w (k+n) k e*ti.size,ti.size⟩) (fun _ _ h=>h) rfl lR;exact IQ (aR _ _ (by rw [ex];exact hr)) k1 (by simp only [aj];exact ⟨_,_,eE,rfl,lY,by simp⟩) (kQ sA) k2
  | aC id o0 k=>
   rw [hx] at hv rx;simp only at hv;simp only [aj] at rx;obtain ⟨p,c,hm,ex,h1,h2⟩:=rx
   split at hv
   case h_2=>cases hv
   rename_i pu PU zz cs hg
   cases hc:(yv zz ti.size&&(yE (k+n) room&&(yE ((k+n)*ti.bytes) room&&(yE (o0+k*ti.size) cs.length&&(yM 0 ti.size&&bO new))))) with
   | false=>rw [hc] at hv;cases hv
   | true=>
    rw [hc] at hv;simp only [yz,yc,yq] at hv;obtain ⟨rfl,rfl,rfl⟩:=hv;simp only [ye] at hc;have c0:=yo hc.1;have c1:=yu hc.2.1;have c2:=yu hc.2.2.1;have c3:=yu hc.2.2.2.1;have c4:=hc.2.2.2.2.2;simp only [room] at c1 c2;obtain ⟨p',arr,t',g1,g2,g3,g4,g5,g6,g7,g8,g9,g10⟩:=hh.obj id _ _ hg hm;rw [hm] at g1;injection g1 with g1
    subst g1;subst c0;rw [g3] at h2;have nP:bT O.ai m S w (slice o0 (k*ti.size) cs) p.b (p.o+o0):=CH _ _ _ _ (rP _ _ _ _ g7);obtain ⟨nD,f1,f2,f3⟩:=zy _ _ _ nP;have afi:(slice o0 (k*ti.size) cs).length=k*ti.size:=by simp only [slice,yQ,wi];omega
    have fm:(pu&&aH new)=true->aH (slice o0 (k*ti.size) cs++new)=true:=fun h=>by
     simp only [ye] at h;exact EO (CE _ (AW _ _ (g8 h.1))) h.2
    by_cases FP:k+n<=c
    ·have fO:=MR mT c4;have oe:p.o+o0+k*ti.size+news.length<=arr.size:=by
      rw [ew.2.1]
      have:(k+n)*ti.size<=c*ti.size:=yX _ FP
      rw [xH] at this;omega
     have hr:=aix (P:=O.P) (ty:=b') (w:=w) B6 hu AA g2 ew fO FP oe;have ho:∀m',dD m m'->m' ct=some ⟨p.b,p.o+o0,c*ti.size,ti.size⟩->
       fH O m' S (w.setRow p.b (arr.toList.take (p.o+o0+k*ti.size)++news++arr.toList.drop (p.o+o0+k*ti.size+news.length)).toArray) ct
        (.cells true (pu&&aH new) false ti.size (slice o0 (k*ti.size) cs++new)):=by
      intro m' hle hi;have aP:fX S w (w.setRow p.b (arr.toList.take (p.o+o0+k*ti.size)++news++arr.toList.drop (p.o+o0+k*ti.size+news.length)).toArray):=fun b hb=>setRow_other w p.b b _ (fun e=>g9 rfl (e▸hb))
      refine ⟨_,_,t',hi,setRow_heap w p.b arr _ t' _ g2,rfl,?_,?_,by simp,?_,fm,fun _=>g9 rfl,by simp⟩
      ·show (slice o0 (k*ti.size) cs++new).length<=c*ti.size
       rw [yW,afi,<-PW,ew.2.1,<-xH];exact yX _ FP
      ·show p.o+o0+c*ti.size<=_
       rw [uH,yW,yW,yQ,wi,vL];omega
      ·refine E0 _ (nD++news) _ (mg (iA hle (fun _ h=>h) aP _ _ f1) (iA hle (fun _ h=>h) aP _ _ mT)) (fun j u hj=>?_);show World.cell? _ ⟨p.b,p.o+o0+j,none⟩=some u
       simp only [World.cell?,setRow_heap w p.b arr _ t' _ g2,tK,yF,xh];rw [tG];have e1:(arr.toList.take (p.o+o0+k*ti.size)).length=p.o+o0+k*ti.size:=by rw [yQ,vL];omega
       by_cases Wc:j<k*ti.size
       ·rw [xY (by omega)] at hj;rw [xF,xY (by omega),vU (by omega)]
        have:=f3 j u hj
        simpa [World.cell?,g2] using this
       ·rw [xJ (by omega)] at hj;have hjl:=(List.getElem?_eq_some_iff.1 hj).1;rw [xF,xJ (by omega),e1,xY (by omega),show p.o+o0+j-(p.o+o0+k*ti.size)=j-nD.length by omega];exact hj
     obtain ⟨k1,k2⟩:=aj9 (p':=⟨p.b,p.o+o0,c*ti.size,ti.size⟩) hh hg hm (g9 rfl) (RA w p.b _) (fun r hr=>by rw [g2] at hr;cases hr) rfl ho;exact IQ (aR _ _ (by rw [ex];exact hr)) k1 (by simp only [aj];exact ⟨_,c,eE,rfl,FP,by simp⟩) (kQ sA) k2
    ·have Wj:Src O.P w ti.size k nD (.slice (some ⟨p.b,p.o+o0,none⟩) k c):=IE (by omega) (fun j u hj=>by rw [py];exact f3 j u hj)
     have hr:=Rc (P:=O.P) (ty:=b') (w:=w) B6 hu AA Wi rfl Wj ew (by omega) c1 c2;have lY:=grownCap_ge w (k+n) c e;have lR:=RR (e:=e) (z:=zv) (cap:=grownCap w (k+n) c e) hh (mg f1 mT) (need:=k+n) (sz:=ti.size) (by rw [yW,f2,afi,ew.2.1,xH]) La (pu&&aH new) fm lY;obtain ⟨k1,k2⟩:=RS hh (hp0:=eG hp id) (p:=⟨w.heap.size,0,grownCap w (k+n) c e*ti.size,ti.size⟩) (fun i q h=>by
      rw [ID] at h;by_cases hi:id=i
      ·simp [hi] at h
      ·simpa only [hi,xh] using h) rfl lR
     exact IQ (aR _ _ (by rw [ex];exact hr)) k1 (by simp only [aj];exact ⟨_,_,eE,rfl,lY,by simp⟩) (kQ sA) k2
  | _=>rw [hx] at hv;simp at hv
end
end
section
open Go
section
variable {O:bt} {H:Hint} {m:Mp} {S:Nat->Prop} {w:yj} {tm:Env} {a:Act} {hp:Hp} {ct:Nat}
def aiL {n:Nat} {cs:List AV} (h:aH cs=true):aH (cs.take n)=true:=CE n h
def X7:∀(n:Nat) {cs:List AV},bO cs=true->bO (cs.take n)=true
 | 0,_,_=>by simp [bO]
 | n+1,[],_=>by simp [bO]
 | n+1,c::cs,h=>by
  simp only [List.take_succ_cons,bO,ye] at h ⊢;exact ⟨h.1,X7 n h.2⟩
def al1 {o:y8} {b':yy} {t u e:yy} {sz:Nat} {x y:xy} {v:AV} {ap:Hp} {bc:Nat} (hH:fN O H) (ht:cd O m S w tm a.tmps) (hh:aX O m S w hp ct)
  (gS:(execOp a.eval o).run O.P w=((do pure (.value (<-Builtin.copy_ #[t,u] b' #[a.eval x,a.eval y])):Sem yar)).run O.P w)
  (B6:O.P.underlying t=some (.slice e)) (hs:cL O.P e=some sz)
  (hv:db tm hp ct (.pX sz (aS H x) (aS H y))=some (v,ap,bc)):zT O m S w a hp ct o v ap bc:=by
 simp only [db] at hv
 cases DE:qQ hp sz (aA tm (aS H y)) with
 | none=>simp [DE] at hv
 | some q=>
  obtain ⟨n,new⟩:=q;simp only [DE] at hv;obtain ⟨news,mT,ew⟩:=YK hh (cF hH ht y) DE;have PW:=jc _ _ mT;have rx:=cF hH ht x;cases hx:aA tm (aS H x)<;>rw [hx] at hv rx<;>simp only [reduceCtorEq] at hv
  rename_i id o0 k;simp only [aj] at rx;obtain ⟨p,c,hm,ex,h1,h2⟩:=rx
  split at hv
  case h_2=>cases hv
  rename_i pu PU zz cs hg
  cases hc:(yv zz sz&&(yE (o0+k*sz) cs.length&&bO new)) with
  | false=>rw [hc] at hv;cases hv
  | true=>
   rw [hc] at hv;simp only [yz,yc,yq] at hv;obtain ⟨rfl,rfl,rfl⟩:=hv;simp only [ye] at hc;have c0:=yo hc.1;have c1:=yu hc.2.1;subst c0;obtain ⟨p',arr,t',g1,g2,g3,g4,g5,g6,g7,g8,g9,g10⟩:=hh.obj id _ _ hg hm;rw [hm] at g1;injection g1 with g1
   subst g1;have BE:min n k*zz<=k*zz:=yX _ (Nat.min_le_right _ _);have aA9:min n k*zz<=n*zz:=yX _ (yaw _ _);have rt:=EW (min n k*zz) mT;have p9:(news.take (min n k*zz)).length=min n k*zz:=by rw [yQ,ew.2.1];omega
   have aBi:(new.take (min n k*zz)).length=min n k*zz:=by rw [yQ,<-PW,ew.2.1];omega
   have fO:=MR rt (X7 _ hc.2.2);have hf:=ew.2.2 w rfl (min n k) (yaw _ _);have aP:=run_storeCells_at O.P p.b (p.o+o0) t' (news.take (min n k*zz)) 0 arr w g2 (by rw [p9];omega) fO;simp only [y7] at aP;have oI:fH O m S (w.setRow p.b (arr.toList.take (p.o+o0)++news.take (min n k*zz)++arr.toList.drop (p.o+o0+(news.take (min n k*zz)).length)).toArray) id
     (.cells true (pu&&aH new) PU zz (over o0 (new.take (min n k*zz)) cs)):=by
    refine ⟨p,_,t',hm,setRow_heap w p.b arr _ t' _ g2,g3,by rw [M8 (by omega)];exact g4,?_,fun h=>by rw [M8 (by omega)];exact g6 h,?_,?_,fun _=>g9 rfl,by simp⟩
    ·rw [uH,yW,yW,yQ,wi,vL,p9];omega
    ·exact aae g2 g7 rt (by omega) (by omega) dD.refl (fun _ h=>h) (fun b hb=>setRow_other w p.b b _ (fun e=>g9 rfl (e▸hb))) (setRow_heap w p.b arr _ t' _ g2)
    ·intro h;simp only [ye] at h;exact YI (g8 h.1) (aiL h.2)
   obtain ⟨e1,e2⟩:=IP hh hg hm (g9 rfl) (RA w p.b _) oI (fun r hr=>by rw [g2] at hr;cases hr)
   refine IQ (u:=goInt ((min n k:Nat):Int)) (m':=m) (S':=S) ?_ e1 (by simp [aj,goInt]) dD.refl e2;rw [gS,ex];simp [Builtin.copy_,run_underlying B6,ew.1 w,nV hs,show Nat.min n k=min n k from rfl,hf,aP]
def aol {o:y8} {k:Nat} {v:AV} {ap:Hp} {bc:Nat} (hH:fN O H) (ht:cd O m S w tm a.tmps) (hh:aX O m S w hp ct)
  (hv:db tm hp ct (bq O.P H k o)=some (v,ap,bc)):zT O m S w a hp ct o v ap bc:=by
 have mI:∀{r:AV×Hp×Nat},db tm hp ct bad=some r->False:=fun h=>by simp [bad,db] at h
 cases ho:o.op with
 | call c=>
  obtain ⟨callee,args,ts⟩:=c;simp only [bq,ho] at hv
  split at hv
  ·cases K6:H.mode k<;>simp [K6,db] at hv
  ·rename_i _ b
   split at hv
   ·rename_i x y t u ib pZ;obtain ⟨al⟩:=args;obtain ⟨tl⟩:=ts;simp only at ib pZ;subst ib;subst pZ;obtain ⟨cs,gS⟩:=Ir (O:=O) (w:=w) (a:=a) ho;have TS:(execOp a.eval o).run O.P w=((do pure (.value (<-Builtin.append_ #[t,u] o.type #[a.eval x,a.eval y])):Sem yar)).run O.P w:=by
     rw [gS];simp [builtin]
    have key:∀{z:AV} {sz cG:Nat} {e:yy},O.P.underlying t=some (.slice e)->((∃e',O.P.underlying u=some (.slice e'))\/O.P.underlying u=some .string)->cL O.P e=some sz->B0 O.P e=some cG->nv O.P e=some z->
      db tm hp ct (bif yv (cellsOf z).length sz then .cX sz cG (aS H x) (aS H y) else bad)=some (v,ap,bc)->zT O m S w a hp ct o v ap bc:=by
     intro z sz cG e h1 h2 h3 h4 h5 h
     cases hb:yv (cellsOf z).length sz with
     | false=>rw [hb] at h;exact (mI h).elim
     | true=>
      rw [hb] at h;exact al0 hH ht hh TS h1 h2 h3 h4 h5 (yo hb) h
    split at hv
    ·rename_i e e' h1 h2
     split at hv
     ·rename_i sz cG z h3 h4 h5
      exact key h1 (.inl ⟨_,h2⟩) h3 h4 h5 hv
     ·exact (mI hv).elim
    ·rename_i e h1 h2
     split at hv
     ·rename_i sz cG z h3 h4 h5
      exact key h1 (.inr h2) h3 h4 h5 hv
     ·exact (mI hv).elim
    ·exact (mI hv).elim
   ·repeat' split at hv
    all_goals simp [db,bad] at hv
   ·rename_i x y t u ib pZ;obtain ⟨al⟩:=args;obtain ⟨tl⟩:=ts;simp only at ib pZ;subst ib;subst pZ;obtain ⟨cs,gS⟩:=Ir (O:=O) (w:=w) (a:=a) ho;have TS:(execOp a.eval o).run O.P w=((do pure (.value (<-Builtin.copy_ #[t,u] o.type #[a.eval x,a.eval y])):Sem yar)).run O.P w:=by
     rw [gS];simp [builtin]
    split at hv
    ·rename_i e h1
     split at hv
     ·rename_i sz h3;exact al1 hH ht hh TS h1 h3 hv
     ·exact (mI hv).elim
    ·exact (mI hv).elim
   ·simp [db] at hv
   ·simp [db] at hv
   ·exact (mI hv).elim
  ·exact (mI hv).elim
 | store t x y=>
  simp only [bq,ho] at hv
  split at hv
  ·rename_i s hs;exact aoh hH ht hh ho hs hv
  ·exact (mI hv).elim
 | mapUpdate t x k y=>
  simp only [bq,ho] at hv
  split at hv
  ·rename_i kt e hu
   split at hv
   ·rename_i kk sY;exact aaf hH ht hh (.inl ho) hu sY hv
   ·exact (mI hv).elim
  ·exact (mI hv).elim
 | insert t x k y=>
  simp only [bq,ho] at hv
  split at hv
  ·rename_i kt e hu
   split at hv
   ·rename_i kk sY;exact aaf hH ht hh (.inr ho) hu sY hv
   ·exact (mI hv).elim
  ·exact (mI hv).elim
 | next x b=>
  cases b with
  | false=>simp only [bq,ho] at hv;exact (mI hv).elim
  | true=>exact alZ hH ht hh ho (by simpa only [bq,ho] using hv)
 | binOp op t x y ty=>
  cases op<;>simp only [bq,ho,rZ,zG] at hv
  case eql=>
        repeat' split at hv
        all_goals first
         | (simp [db,bad] at hv;done)
         | (cases hb:(O.P.stoodInHeld t||O.P.eqGuardType O.P.depth t)<;>rw [hb] at hv<;>simp [db,bad] at hv)
  case neq=>
        repeat' split at hv
        all_goals first
         | (simp [db,bad] at hv;done)
         | (cases hb:(O.P.stoodInHeld t||O.P.eqGuardType O.P.depth t)<;>rw [hb] at hv<;>simp [db,bad] at hv)
  all_goals simp [db] at hv
 | buildSlice t n parts=>
  simp only [bq,ho] at hv
  repeat' split at hv
  all_goals first
   | (simp [db,bad] at hv;done)
   | (
     revert hv;generalize yE _ _=bb;intro hv;cases bb<;>simp [db,bad] at hv
     try (split at hv<;>simp [db,bad] at hv))
 | makeMap t r=>
  cases r<;>simp only [bq,ho] at hv
  ·repeat' split at hv
   all_goals simp [db,bad] at hv
  ·exact (mI hv).elim
 | _=>
  simp only [bq,ho] at hv
  (repeat' split at hv)
  all_goals first
   | contradiction
   | (simp [db,bad] at hv;done)
end
end
section
section
variable {hp H:Hp} {tm cu:Env}
def aba (hl:de hp H) {id:Nat} {rw pu ex:Bool} {sz:Nat} {cs:List AV} (h:az hp id=some (.cells rw pu ex sz cs)):∃eQ,az H id=some (.cells eQ pu ex sz cs):=by
 obtain ⟨o',h1,eQ,rfl,_⟩:=hl id _ h;exact ⟨eQ,h1⟩
def abb (hl:de hp H) {id:Nat} {rw:Bool} {ks vs:List AV} (h:az hp id=some (.mp rw ks vs)):∃eQ,az H id=some (.mp eQ ks vs):=by
 obtain ⟨o',h1,eQ,rfl,_⟩:=hl id _ h;exact ⟨eQ,h1⟩
def abc (hl:de hp H) {sz:Nat} {ag:Bool} {x v:AV} (h:ic hp sz ag x=some v):ic H sz ag x=some v:=by
 cases x<;>simp only [ic,reduceCtorEq] at h ⊢
 ·rename_i id o
  cases hg:az hp id with
  | none=>simp [hg] at h
  | some ob=>
   cases ob<;>simp only [hg,reduceCtorEq] at h
   obtain ⟨r,h1⟩:=aba hl hg;simp only [h1];exact h
 ·exact h
def al2 (hl:de hp H) {k x:AV} {v:Option AV} (h:kW hp k x=some v):kW H k x=some v:=by
 cases x<;>simp only [kW,reduceCtorEq] at h ⊢
 ·exact h
 ·rename_i id
  cases hg:az hp id with
  | none=>simp [hg] at h
  | some ob=>
   cases ob<;>simp only [hg,reduceCtorEq] at h
   obtain ⟨r,h1⟩:=abb hl hg;simp only [h1];exact h
 ·exact h
def al3 (hl:de hp H) {k:Nat} {x v:AV} (h:ia hp k x=some v):ia H k x=some v:=by
 unfold ia at h ⊢
 split at h
 all_goals first
  | exact h
  | cases h
  | skip
 rename_i id
 cases hg:az hp id with
 | none=>simp [hg] at h
 | some ob=>
  cases ob<;>simp only [hg,reduceCtorEq] at h
  obtain ⟨r,h1⟩:=abb hl hg;simp only [h1];exact h
def al4 (hl:de hp H) {k:Cut} {x v:AV} {lo hi:Option X} (h:fh hp k x tm lo hi=some v):fh H k x tm lo hi=some v:=by
 unfold fh at h ⊢
 split at h
 all_goals first
  | exact h
  | cases h
  | skip
 rename_i sz id o n
 cases hg:az hp id with
 | none=>simp [hg] at h
 | some ob=>
  cases ob<;>simp only [hg,reduceCtorEq] at h
  obtain ⟨r,h1⟩:=aba hl hg;simp only [h1];exact h
def aka (hl:de hp H) {o:Op} {v:AV} (h:bE tm hp o=some v):bE tm H o=some v:=by
 cases o<;>simp only [bE,reduceCtorEq] at h ⊢<;>first
  | exact h
  | exact abc hl h
  | exact al3 hl h
  | exact al4 hl h
  | skip
 rename_i kk zero ok m k
 cases hk:qR kk (aA tm k) with
 | false=>rw [hk] at h;cases h
 | true=>
  rw [hk] at h;simp only [yz] at h ⊢
  cases hr:kW hp (aA tm k) (aA tm m) with
  | none=>simp [hr] at h
  | some r=>rw [al2 hl hr];simpa only [hr] using h
def akb {o:Op} (hk:bF o=0) (hp H:Hp):bE tm hp o=bE tm H o:=by
 cases o with
 | dT k x lo hi=>
  cases k with
  | str=>simp only [bE,fh];cases aA tm x<;>rfl
  | sl sz=>simp [bF] at hk
  | ar n sz=>simp [bF] at hk
 | len k x=>
  match k,hk with
  | 0,_=>simp only [bE];unfold ia;split<;>simp_all
  | 1,_=>simp only [bE];unfold ia;split<;>simp_all
  | k+2,hk=>simp [bF] at hk
 | call md f xs=>cases md<;>simp [bF] at hk
 | _=>first
  | rfl
  | simp [bF] at hk
end
section
variable {tm cu:Env}
def dX {x:X} (h:∀t,t∈jJ x->ah cu t=ah tm t):aA cu x=aA tm x:=by
 cases x with
 | t i=>exact h i (by simp [jJ])
 | c v=>rfl
def CI:∀{xs:List X},(∀t,t∈zL xs->ah cu t=ah tm t)->dC cu xs=dC tm xs
 | [],_=>rfl
 | x::r,h=>by
  simp only [dC]
  rw [dX (x:=x) (fun t ht=>h t (by simp [zL,ht])),CI (fun t ht=>h t (by simp [zL,ht]))]
def RU:∀{ps:List (Nat×Nat×X)} {z:List AV},(∀t,t∈JH ps->ah cu t=ah tm t)->fill cu z ps=fill tm z ps
 | [],_,_=>rfl
 | (o,s,x)::r,z,h=>by
  simp only [fill]
  rw [dX (x:=x) (fun t ht=>h t (by simp [JH,ht]))]
  rw [RU (ps:=r) (fun t ht=>h t (by simp [JH,ht]))]
def YL {d:Nat} {x:Option X} (h:∀t,t∈JG x->ah cu t=ah tm t):cP cu d x=cP tm d x:=by
 cases x with
 | none=>rfl
 | some x=>simp only [cP];rw [dX h]
def ajd {hp:Hp} {k:Cut} {x:AV} {lo hi:Option X} (h1:∀t,t∈JG lo->ah cu t=ah tm t) (h2:∀t,t∈JG hi->ah cu t=ah tm t):
  fh hp k x cu lo hi=fh hp k x tm lo hi:=by
 unfold fh;simp only [YL h1,YL h2]
def aiM {hp:Hp} {o:Op} (h:∀t,t∈kT o->ah cu t=ah tm t):bE cu hp o=bE tm hp o:=by
 cases o<;>simp only [kT,wH] at h<;>simp only [bE]
 case pick c a b=>rw [dX (x:=c) fun t ht=>h t (.inl ht),dX (x:=a) fun t ht=>h t (.inr (.inl ht)),dX (x:=b) fun t ht=>h t (.inr (.inr ht))]
 case df z ps=>rw [RU h]
 case rz f a b=>rw [CI (xs:=a) fun t ht=>h t (.inl ht),CI (xs:=b) fun t ht=>h t (.inr ht)]
 case dT k x lo hi=>rw [dX (x:=x) fun t ht=>h t (.inl ht),ajd (fun t ht=>h t (.inr (.inl ht))) (fun t ht=>h t (.inr (.inr ht)))]
 case mn xs=>rw [CI h]
 case mx xs=>rw [CI h]
 case bin op x y=>rw [dX (x:=x) fun t ht=>h t (.inl ht),dX (x:=y) fun t ht=>h t (.inr ht)]
 case eq n k x y=>rw [dX (x:=x) fun t ht=>h t (.inl ht),dX (x:=y) fun t ht=>h t (.inr ht)]
 case aZ s x y=>rw [dX (x:=x) fun t ht=>h t (.inl ht),dX (x:=y) fun t ht=>h t (.inr ht)]
 case At l s x y=>rw [dX (x:=x) fun t ht=>h t (.inl ht),dX (x:=y) fun t ht=>h t (.inr ht)]
 case lE x y=>rw [dX (x:=x) fun t ht=>h t (.inl ht),dX (x:=y) fun t ht=>h t (.inr ht)]
 case sS l s g x y=>rw [dX (x:=x) fun t ht=>h t (.inl ht),dX (x:=y) fun t ht=>h t (.inr ht)]
 case BY kk z ok x y=>rw [dX (x:=x) fun t ht=>h t (.inl ht),dX (x:=y) fun t ht=>h t (.inr ht)]
 all_goals first
  | rfl
  | (rename_i x;rw [dX (x:=x) h])
def Is {hp ap:Hp} {ct:Nat} {o:Op} (h:∀t,t∈kT o->ah cu t=ah tm t):cT cu ap ct o=cT tm hp ct o:=by
 cases o<;>simp only [kT,wH] at h<;>simp only [cT]
 case box s x=>rw [dX (x:=x) h]
 case bI n s z ps=>rw [RU h]
 case gU s b z x y=>rw [dX (x:=x) fun t ht=>h t (.inl ht),dX (x:=y) fun t ht=>h t (.inr ht)]
 case pU x=>rw [dX (x:=x) h]
def EP {hp:Hp} {ct:Nat} {o:Op} (h:∀t,t∈kT o->ah cu t=ah tm t):db cu hp ct o=db tm hp ct o:=by
 cases o<;>simp only [kT,wH] at h<;>simp only [db]
 case st s x y=>rw [dX (x:=x) fun t ht=>h t (.inl ht),dX (x:=y) fun t ht=>h t (.inr ht)]
 case mS kk c a b=>rw [dX (x:=c) fun t ht=>h t (.inl ht),dX (x:=a) fun t ht=>h t (.inr (.inl ht)),dX (x:=b) fun t ht=>h t (.inr (.inr ht))]
 case pV x=>rw [dX (x:=x) h]
 case cX s b x y=>rw [dX (x:=x) fun t ht=>h t (.inl ht),dX (x:=y) fun t ht=>h t (.inr ht)]
 case pX s x y=>rw [dX (x:=x) fun t ht=>h t (.inl ht),dX (x:=y) fun t ht=>h t (.inr ht)]
end
end
section
open Go
structure Calm (w w':yj):Prop where
 os:w'.os=w.os
 tape:w'.tape=w.tape
 output:w'.output=w.output
 size:w.heap.size<=w'.heap.size
 same:∀b,b<w.heap.size->w'.heap[b]? =w.heap[b]?
def Calm.refl {w:yj}:Calm w w:=⟨rfl,rfl,rfl,yr _,fun _ _=>rfl⟩
def Calm.trans {w w' D8:yj} (h:Calm w w') (k:Calm w' D8):Calm w D8:=
 ⟨k.os.trans h.os,k.tape.trans h.tape,k.output.trans h.output,xn h.size k.size,fun b hb=>(k.same b (yP hb h.size)).trans (h.same b hb)⟩
def Bp (O:bt) (w:yj):Prop:=(∀b,b<O.w0.heap.size->w.heap[b]? =O.w0.heap[b]?)/\O.w0.heap.size<=w.heap.size
def ff:Mp:=fun _=>none
def iI (ai:Nat->Nat) (S:Nat->Prop) (w:yj) (lo:Nat):AV->yf->List Nat->Prop
 | .bW ex sz n cs,u,bs=>∃b o c arr t,bs=[b]/\u= .slice (some ⟨b,o,none⟩) n c/\n<=c/\(ex=true->c=n)/\lo<=b/\¬S b/\w.heap[b]? =some (.cells arr t (0,0))/\cs.length=n*sz/\
   o+c*sz<=arr.size/\bT ai ff S w cs b o/\aH cs=true
 | r,u,bs=>bs=[]/\aj ai ff S w r u/\aU r=true
def lA (ai:Nat->Nat) (S:Nat->Prop) (w:yj) (lo:Nat):List AV->List yf->List Nat->Prop
 | [],us,bs=>us=[]/\bs=[]
 | v::r,us,bs=>∃u t b1 b2,us=u::t/\bs=b1++b2/\iI ai S w lo v u b1/\lA ai S w lo r t b2
def og (ai:Nat->Nat) (S:Nat->Prop) (w:yj) (lo:Nat) (r:AV) (u:yf):Prop:=
 match r with
 | .au vs=>∃(us:Array yf) (bs:List Nat),u= .tuple us/\lA ai S w lo vs us.toList bs/\bs.Nodup
 | r=>∃bs,iI ai S w lo r u bs
def A9 (P:xi) (f:FuncId) (args:Array yf) (w:yj) (R:yax->yj->Prop):Prop:=
 ((callFunc f args).run P w= .ok (.enter f args) w/\CallsIn Fence.wide 0 P f args w R)\/∃u w',(callFunc f args).run P w= .ok (.value u) w'/\R (.returned u) w'
def aag (O:bt) (w:yj) (S:Nat->Prop) (r:AV) (e:yax) (w':yj):Prop:=
 ∃u S',e= .returned u/\Calm w w'/\(∀b,S b->S' b)/\(∀b,S' b->S b\/w.heap.size<=b)/\(∀b,S' b->b<w'.heap.size)/\og O.ai S' w' w.heap.size r u
def eS (O:bt) (n:Nat) (aq:List AV) (r:AV):Prop:=
 ∀(w:yj) (S:Nat->Prop) (args:Array yf),Bp O w->(∀b,S b->b<w.heap.size)->av O.ai ff S w aq args.toList->aH aq=true->
  A9 O.P (O.ai n) args w (aag O w S r)
def zB (O:bt) (m:Mp) (S:Nat->Prop) (w:yj) (hp:Hp) (ct:Nat) (v:AV) (ap:Hp) (bc:Nat) (e:yax) (w':yj):Prop:=
 ∃u m' S',e= .returned u/\aX O m' S' w' ap bc/\ct<=bc/\aj O.ai m' S' w' v u/\ck m S w hp m' S' w' ap ct
def Bq (O:bt) (n:Nat) (hp:Hp) (ct:Nat) (aq:List AV) (v:AV) (ap:Hp) (bc:Nat):Prop:=
 ∀(m:Mp) (S:Nat->Prop) (w:yj) (args:Array yf),aX O m S w hp ct->av O.ai m S w aq args.toList->A9 O.P (O.ai n) args w (zB O m S w hp ct v ap bc)
section
variable {ai:Nat->Nat} {m m':Mp} {S S':Nat->Prop} {w w':yj}
mutual
def qJ (hS:∀b,S b->S' b) (hw:fX S w w'):∀(v:AV) (u:yf),aU v=true->aj ai m S w v u->aj ai m' S' w' v u
 | .int _ _,_,_,h | .bool _,_,_,h | .du _ _,_,_,h | .str _,_,_,h | .lk,_,_,h | .ab,_,_,h | .iS,_,_,h | .kH,_,_,h | .undef,_,_,h=>by
  simpa only [aj] using h
 | .ptr id o,u,hp,h=>by simp [aU] at hp
 | .aQ cs,u,hp,h=>by
  simp only [aj] at h ⊢;obtain ⟨b,o,h1,h2,h3,h4⟩:=h;refine ⟨b,o,h1,h2.imp id (hS b),h3,?_⟩;rcases h2 with rfl | h2
  ·simp only [bT]
  ·exact RB hS hw cs b o h3 h2 h4
 | .aJ ex n cs,u,hp,h=>by
  simp only [aj] at h ⊢;rcases h with ⟨b,o,c,h1,h2,h3,h4,h5,h6⟩ | h
  ·refine .inl ⟨b,o,c,h1,h2,h3,h4.imp id (hS b),h5,?_⟩;rcases h4 with rfl | h4
   ·simp only [bT]
   ·exact RB hS hw cs b o h5 h4 h6
  ·exact .inr h
 | .bW _ _ _ _,u,hp,h=>by simp [aU] at hp
 | .aC id o n,u,hp,h=>by simp [aU] at hp
 | .fn (.f g) first cap,u,hp,h=>by
  simp only [aj] at h ⊢;simp only [aU,ye] at hp;obtain ⟨fi,ca,h1,h2,h3⟩:=h;exact ⟨fi,ca,h1,zA hS hw first _ hp.1 h2,zA hS hw cap _ hp.2 h3⟩
 | .fn (.y l) _ _,u,hp,h=>by simp [aU] at hp
 | .map id,u,hp,h=>by simp [aU] at hp
 | .jN ks vs,u,hp,h=>by
  simp only [aj] at h ⊢;obtain ⟨b,es,clock,h1,h2,h3,h4,h5,h6,h7⟩:=h;exact ⟨b,es,clock,h1,hS b h2,h3,h4,(hw b h2).trans h5,zA hS hw ks _ h3 h6,zA hS hw vs _ h4 h7⟩
 | .it id,u,hp,h=>by simp [aU] at hp
 | .agg cs,u,hp,h=>by
  simp only [aj] at h ⊢;simp only [aU] at hp;obtain ⟨xs,h1,h2⟩:=h;exact ⟨xs,h1,zA hS hw cs _ hp h2⟩
 | .au cs,u,hp,h=>by
  simp only [aj] at h ⊢;simp only [aU] at hp;obtain ⟨xs,h1,h2⟩:=h;exact ⟨xs,h1,zA hS hw cs _ hp h2⟩
def zA (hS:∀b,S b->S' b) (hw:fX S w w'):∀(vs:List AV) (us:List yf),aH vs=true->av ai m S w vs us->av ai m' S' w' vs us
 | [],us,_,h=>by simpa only [av] using h
 | v::r,us,hp,h=>by
  simp only [av] at h ⊢;simp only [aH,ye] at hp;obtain ⟨u,t,h1,h2,h3⟩:=h;exact ⟨u,t,h1,qJ hS hw v u hp.1 h2,zA hS hw r t hp.2 h3⟩
def RB (hS:∀b,S b->S' b) (hw:fX S w w'):∀(cs:List AV) (b o:Nat),aH cs=true->S b->bT ai m S w cs b o->bT ai m' S' w' cs b o
 | [],_,_,_,_,_=>by simp only [bT]
 | c::cs,b,o,hp,hb,h=>by
  simp only [bT] at h ⊢;simp only [aH,ye] at hp;obtain ⟨⟨u,h1,h2⟩,h3⟩:=h;exact ⟨⟨u,(Mu (hw b hb)).trans h1,qJ hS hw c u hp.1 h2⟩,RB hS hw cs b (o+1) hp.2 hb h3⟩
end
def CF (hS:∀b,S b->S' b) (hw:fX S w w'):∀(cs:List AV) (b o:Nat),aH cs=true->w'.heap[b]? =w.heap[b]? ->bT ai m S w cs b o->bT ai m' S' w' cs b o
 | [],_,_,_,_,_=>by simp only [bT]
 | c::cs,b,o,hp,hb,h=>by
  simp only [aH,ye] at hp;obtain ⟨⟨u,h1,h2⟩,h3⟩:=h;exact ⟨⟨u,(Mu hb).trans h1,qJ hS hw c u hp.1 h2⟩,CF hS hw cs b (o+1) hp.2 hb h3⟩
end
section
variable {O:bt} {m:Mp} {S S':Nat->Prop} {w w':yj} {hp:Hp} {ct:Nat}
def akc (hh:aX O m S w hp ct) (hw:Calm w w'):fX S w w':=fun b hb=>hw.same b (hh.slt b hb)
def EX (hh:aX O m S w hp ct) (hw:Calm w w') (hS:∀b,S b->S' b) (hn:∀b,S' b->S b\/w.heap.size<=b) (hl:∀b,S' b->b<w'.heap.size):aX O m S' w' hp ct where
 obj id o p ho hm:=rR (fun _ _ h=>h) hS (akc hh hw) (fun q hq=>hw.same _ (hh.blt id q hq)) (fun q hq hs=>(hn _ hs).resolve_right (by have:=hh.blt id q hq;omega)) (hh.obj id o p ho hm)
 lt:=hh.lt
 inj:=hh.inj
 slt:=hl
 blt id p h:=yP (hh.blt id p h) hw.size
 low:=hh.low
 iH b hb:=(hw.same b (yP hb hh.fY)).trans (hh.iH b hb)
 fY:=xn hh.fY hw.size
 a7:=hh.a7
def CN {base:Nat} (hh:aX O m S w hp ct) (hw:Calm w w') (hS:∀b,S b->S' b) (hn:∀b,S' b->S b\/w.heap.size<=b):ck m S w hp m S' w' hp base where
 os:=hw.os
 tape:=hw.tape
 output:=hw.output
 size:=hw.size
 same b hb _:=hw.same b hb
 sub:=hS
 still b hb:=hw.same b (hh.slt b hb)
 new b hb:=(hn b hb).imp id .inr
 own b hb:= .inl hb
 old _ _ _ h:=h
 loops b r hb:=⟨r,(hw.same b (xv.1 hb).1).trans hb⟩
def al5 {i:Nat} (hh:aX O m S w hp ct) (hi:m i=none) (GG:i<ct) {p:Pl} (hb:p.b<w.heap.size) (bj:O.w0.heap.size<=p.b) (GH:¬S p.b) (oJ:∀j q,m j=some q->q.b≠p.b)
  (hf:∀o,az hp i=some o->(fH O (fI m i p) S w i o/\¬ju o)\/(ju o/\fH O (fI m i p) (fun b=>S b\/b=p.b) w i o)):
  ∃S',aX O (fI m i p) S' w hp ct/\(∀b,S b->S' b)/\∀b,S' b->S b\/b=p.b:=by
 have aP:fX S w w:=fun _ _=>rfl
 have gen:∀S':Nat->Prop,(∀b,S b->S' b)->(∀b,S' b->S b\/b=p.b)->(∀o,az hp i=some o->fH O (fI m i p) S' w i o)->aX O (fI m i p) S' w hp ct:=by
  intro S' h1 h2 h3;refine ⟨?_,?_,?_,?_,?_,?_,hh.iH,hh.fY,hh.a7⟩
  ·intro id o q ho hm;by_cases hc:id=i
   ·grind
   ·rw [eD hc] at hm;refine rR (kQ hi) h1 aP (fun _ _=>rfl) (fun q' bK hs=>?_) (hh.obj id o q ho hm)
    grind
  ·intro id q hm;by_cases hc:id=i
   ·grind
   ·rw [eD hc] at hm;exact hh.lt id q hm
  ·intro a b oa ob pa pb ha cR Eb z8 e;by_cases ca:a=i
   ·by_cases cb:b=i
    ·grind
    ·subst ca;rw [eE] at Eb;rw [eD cb] at z8
     grind
   ·rw [eD ca] at Eb;by_cases cb:b=i
    ·subst cb;rw [eE] at z8
     grind
    ·rw [eD cb] at z8;exact hh.inj a b oa ob pa pb ha cR Eb z8 e
  ·intro b hs;rcases h2 b hs with h | h
   ·exact hh.slt b h
   ·grind
  ·intro id q hm;by_cases hc:id=i
   ·subst hc;rw [eE] at hm
    grind
   ·rw [eD hc] at hm;exact hh.blt id q hm
  ·intro id q hm;by_cases hc:id=i
   ·subst hc;rw [eE] at hm
    grind
   ·rw [eD hc] at hm;exact hh.low id q hm
 cases ho:az hp i with
 | none=>exact ⟨S,gen S (fun _ h=>h) (fun _ h=> .inl h) (fun o h=>by rw [ho] at h;cases h),fun _ h=>h,fun _ h=> .inl h⟩
 | some o=>
  rcases hf o ho with ⟨h1,_⟩ | ⟨_,h1⟩
  ·exact ⟨S,gen S (fun _ h=>h) (fun _ h=> .inl h) (fun o' h=>by rw [ho] at h;injection h with h;subst h;exact h1),fun _ h=>h,fun _ h=> .inl h⟩
  ·exact ⟨_,gen (fun b=>S b\/b=p.b) (fun _ h=> .inl h) (fun _ h=>h) (fun o' h=>by rw [ho] at h;injection h with h;subst h;exact h1),fun _ h=> .inl h,fun _ h=>h⟩
def Zr {ai:Nat->Nat} {lo:Nat} {r:AV} {u:yf} {bs:List Nat} (h:iI ai S w lo r u bs) (m:Mp) (hS:∀b,S b->S' b) (hbs:∀b,b∈bs->S' b):aj ai m S' w (bG r) u:=by
 have aP:fX S w w:=fun _ _=>rfl
 cases r with
 | bW ex sz n cs=>
  obtain ⟨b,o,c,arr,t,rfl,rfl,h1,h2,h3,h4,h5,h6,h7,h8,h9⟩:=h;exact .inl ⟨b,o,c,rfl,h1,h2,.inr (hbs b (by simp)),h9,CF hS aP cs b o h9 rfl h8⟩
 | _=>simp only [iI] at h;exact qJ hS aP _ _ h.2.2 h.2.1
def Zs {ai:Nat->Nat} {lo:Nat} (m:Mp) (hS:∀b,S b->S' b):∀{vs:List AV} {us:List yf} {bs:List Nat},lA ai S w lo vs us bs->(∀b,b∈bs->S' b)->av ai m S' w (Dq vs) us
 | [],us,bs,h,_=>by simp only [lA] at h;exact h.1
 | v::r,us,bs,h,hb=>by
  obtain ⟨u,t,b1,b2,rfl,rfl,h1,h2⟩:=h;exact ⟨u,t,rfl,Zr h1 m hS (fun b cR=>hb b (by simp [cR])),Zs m hS h2 (fun b cR=>hb b (by simp [cR]))⟩
def SK {ai:Nat->Nat} {lo:Nat} {r:AV} {u:yf} {bs:List Nat} (h:iI ai S w lo r u bs):∀b,b∈bs->lo<=b/\b<w.heap.size:=by
 intro b hb
 cases r with
 | bW ex sz n cs=>
  simp only [iI] at h
  grind
 | _=>simp only [iI] at h;rw [h.1] at hb;cases hb
def SL {ai:Nat->Nat} {lo:Nat}:∀{vs:List AV} {us:List yf} {bs:List Nat},lA ai S w lo vs us bs->∀b,b∈bs->lo<=b/\b<w.heap.size
 | [],us,bs,h,b,hb=>by simp only [lA] at h;rw [h.2] at hb;cases hb
 | v::r,us,bs,h,b,hb=>by
  obtain ⟨u,t,b1,b2,rfl,rfl,h1,h2⟩:=h;rcases wH.1 hb with hb | hb
  ·exact SK h1 b hb
  ·exact SL h2 b hb
def Zt {ai:Nat->Nat} {lo:Nat} {r:AV} {u:yf} (h:og ai S w lo r u) (m:Mp):∃S',(∀b,S b->S' b)/\(∀b,S' b->S b\/(lo<=b/\b<w.heap.size))/\aj ai m S' w (shut r) u:=by
 have one:∀(r:AV) (bs:List Nat),shut r=bG r->iI ai S w lo r u bs->∃S',(∀b,S b->S' b)/\(∀b,S' b->S b\/(lo<=b/\b<w.heap.size))/\aj ai m S' w (shut r) u:=by
  intro r bs hs h;refine ⟨fun b=>S b\/b∈bs,fun _ h=> .inl h,fun b hb=>hb.imp (fun x=>x) (fun hb=>SK h b hb),?_⟩;rw [hs];exact Zr h m (fun _ h=> .inl h) (fun _ h=> .inr h)
 cases r with
 | au vs=>
  obtain ⟨us,bs,rfl,h1,h2⟩:=h;refine ⟨fun b=>S b\/b∈bs,fun _ h=> .inl h,fun b hb=>hb.imp (fun x=>x) (fun hb=>SL h1 b hb),?_⟩;exact ⟨us,rfl,Zs m (fun _ h=> .inl h) h1 (fun _ h=> .inr h)⟩
 | _=>
  obtain ⟨bs,h⟩:=h;exact one _ bs rfl h
end
end
section
open Go
section
variable {O:bt} {m:Mp} {S:Nat->Prop} {w:yj} {H:Hp} {cH:Nat}
def NA {hp:Hp} {ct:Nat} {r:AV}:ct<=(fA hp ct r).2.2:=by
 cases r<;>simp only [fA]<;>omega
def NB:∀{vs:List AV} {hp:Hp} {ct:Nat},ct<=(jO hp ct vs).2.2
 | [],hp,ct=>by simp [jO]
 | v::r,hp,ct=>by
  simp only [jO];have h1:=NA (hp:=hp) (ct:=ct) (r:=v);have h2:=NB (vs:=r) (hp:=(fA hp ct v).2.1) (ct:=(fA hp ct v).2.2);omega
def SM {hp:Hp} {ct:Nat} {r:AV} (hf:∀id o,az hp id=some o->id<ct):∀id o,az hp id=some o->az (fA hp ct r).2.1 id=some o:=by
 intro id o h;cases r<;>simp only [fA]<;>try exact h
 rw [iB,yA (by have:=hf id o h;omega)];exact h
def abd {hp:Hp} {ct lo:Nat} {r:AV} {u:yf} {bs:List Nat} (hh:aX O m S w H cH) (hl:de (fA hp ct r).2.1 H) (iv:(fA hp ct r).2.2<=cH) (hn:∀id,ct<=id->id<(fA hp ct r).2.2->m id=none)
  (hr:iI O.ai S w lo r u bs) (bj:O.w0.heap.size<=lo) (oJ:∀j q,m j=some q->q.b∉bs):
  ∃m' S',aX O m' S' w H cH/\dD m m'/\(∀id p,m' id=some p->m id=some p\/(ct<=id/\id<(fA hp ct r).2.2/\p.b∈bs))/\aj O.ai m' S' w (fA hp ct r).1 u/\(∀b,S b->S' b)/\(∀b,S' b->S b\/b∈bs):=by
 have aP:fX S w w:=fun _ _=>rfl
 cases r with
 | bW ex sz n cs=>
  simp only [fA] at hl iv hn;obtain ⟨b,o,c,arr,t,rfl,rfl,h1,h2,h3,h4,h5,h6,h7,h8,h9⟩:=hr;have bN:m ct=none:=hn ct (yr _) (Nat.lt_succ_self _);have au9:b<w.heap.size:=(xv.1 h5).1;have oI:fH O (fI m ct ⟨b,o,c*sz,sz⟩) S w ct (.cells true true ex sz cs):=by
   refine ⟨_,arr,t,eE,h5,rfl,?_,h7,fun hx=>?_,CF (fun _ h=>h) aP cs b o h9 rfl h8,fun _=>h9,fun _=>h4,by simp⟩
   ·show cs.length<=c*sz
    rw [h6];exact yX _ h1
   ·grind
  obtain ⟨S',k1,k2,k3⟩:=al5 (p:=⟨b,o,c*sz,sz⟩) hh bN (by omega) au9 (by show _<=b;omega) h4 (fun j q hq e=>oJ j q hq (by rw [e];simp)) (fun o' lF=>by
   obtain ⟨o'',g1,g2⟩:=hl ct (.cells true true ex sz cs) (by rw [iB];simp)
   rw [lF] at g1;injection g1 with g1
   subst g1
   exact Yk (p:=⟨b,o,c*sz,sz⟩) g2 eE oI (by simp [ju]))
  refine ⟨_,S',k1,kQ bN,fun id p ap=>?_,?_,k2,fun b' cR=>(k3 b' cR).imp (fun h=>h) (fun h=>by rw [h];simp)⟩
  ·by_cases hc:id=ct
   ·subst hc;rw [eE] at ap;injection ap with ap
    subst ap;exact .inr ⟨yr _,by simp [fA],by simp⟩
   ·rw [eD hc] at ap;exact .inl ap
  ·simp only [fA,aj];exact ⟨_,c,eE,by simp,h1,by simp⟩
 | _=>
  exact ⟨m,S,hh,dD.refl,fun _ _ h=> .inl h,qJ (fun _ h=>h) aP _ _ hr.2.2 hr.2.1,fun _ h=>h,fun _ h=> .inl h⟩
def IZ {hp:Hp} {ct:Nat} {r:AV} (hf:∀id o,az hp id=some o->id<ct):∀id o,az (fA hp ct r).2.1 id=some o->id<(fA hp ct r).2.2:=by
 intro id o h;cases r<;>simp only [fA] at h ⊢<;>try exact hf id o h
 rw [iB] at h
 grind
def NC:∀{vs:List AV} {hp:Hp} {ct:Nat},(∀id o,az hp id=some o->id<ct)->∀id o,az hp id=some o->az (jO hp ct vs).2.1 id=some o
 | [],hp,ct,_,id,o,h=>by simpa [jO] using h
 | v::r,hp,ct,hf,id,o,h=>by
  exact NC (IZ hf) id o (SM hf id o h)
def abe {lo:Nat} (bj:O.w0.heap.size<=lo):∀{vs:List AV} {us:List yf} {bs:List Nat} {hp:Hp} {ct:Nat} {m:Mp} {S:Nat->Prop},aX O m S w H cH->de (jO hp ct vs).2.1 H->(jO hp ct vs).2.2<=cH->
  (∀id o,az hp id=some o->id<ct)->(∀id,ct<=id->id<(jO hp ct vs).2.2->m id=none)->
  lA O.ai S w lo vs us bs->bs.Nodup->(∀j q,m j=some q->q.b∉bs)->
  ∃m' S',aX O m' S' w H cH/\dD m m'/\(∀id p,m' id=some p->m id=some p\/(ct<=id/\id<(jO hp ct vs).2.2/\p.b∈bs))/\av O.ai m' S' w (jO hp ct vs).1 us/\(∀b,S b->S' b)/\(∀b,S' b->S b\/b∈bs)
 | [],us,bs,hp,ct,m,S,hh,hl,iv,hf,hn,hr,lZ,oJ=>by
  simp only [lA] at hr;exact ⟨m,S,hh,dD.refl,fun _ _ h=> .inl h,by simp only [jO,av];exact hr.1,fun _ h=>h,fun _ h=> .inl h⟩
 | v::r,us,bs,hp,ct,m,S,hh,hl,iv,hf,hn,hr,lZ,oJ=>by
  simp only [lA] at hr;obtain ⟨u,t,b1,b2,rfl,rfl,h1,h2⟩:=hr;simp only [jO] at hl iv hn ⊢;have ez:=NA (hp:=hp) (ct:=ct) (r:=v);have zd:=NB (vs:=r) (hp:=(fA hp ct v).2.1) (ct:=(fA hp ct v).2.2);rw [List.nodup_append] at lZ;obtain ⟨m1,S1,k1,k2,k3,k4,k5,k6⟩:=abd (hp:=hp) (ct:=ct) (lo:=lo) hh ((fun id o h=>hl id o (NC (IZ hf) id o h))) (by omega) (fun id g1 g2=>hn id g1 (by omega)) h1 bj
   (fun j q hq hb=>oJ j q hq (by simp [hb]))
  have h2':lA O.ai S1 w lo r t b2:=by
   clear k4;have Uu:∀b,S1 b->S b\/b∈b1:=k6;have hd:∀b,b∈b2->b∉b1:=fun b hb jS=>lZ.2.2 b jS b hb rfl
   have one:∀{v:AV} {u:yf} {bb:List Nat},(∀b,b∈bb->b∉b1)->iI O.ai S w lo v u bb->iI O.ai S1 w lo v u bb:=by
    intro v u bb sZ h
    cases v with
    | bW ex sz n cs=>
     simp only [iI] at h ⊢;obtain ⟨b,o,c,arr,tt,rfl,rfl,g1,g2,g3,g4,g5,g6,g7,g8,g9⟩:=h;exact ⟨b,o,c,arr,tt,rfl,rfl,g1,g2,g3,fun hs=>(Uu b hs).elim g4 (sZ b (by simp)),g5,g6,g7,CF k5 (fun _ _=>rfl) cs b o g9 rfl g8,g9⟩
    | _=>simp only [iI] at h ⊢;exact ⟨h.1,qJ k5 (fun _ _=>rfl) _ _ h.2.2 h.2.1,h.2.2⟩
   clear k1 k2 k3 hl iv hn oJ lZ;revert hd h2;generalize b2=bb
   induction r generalizing t bb with
   | nil=>intro h2 hd;simpa only [lA] using h2
   | cons v' r ih=>
    intro h2 hd;simp only [lA] at h2 ⊢;obtain ⟨u',t',c1,c2,rfl,rfl,g1,g2⟩:=h2
    exact ⟨u',t',c1,c2,rfl,rfl,one (fun b hb=>hd b (by simp [hb])) g1,ih _ (by
     have:=NB (vs:=r) (hp:=(fA hp ct v).2.1) (ct:=(fA hp ct v).2.2)
     exact this) _ g2 (fun b hb=>hd b (by simp [hb]))⟩
  obtain ⟨m2,S2,g1,g2,g3,g4,g5,g6⟩:=abe bj (vs:=r) (us:=t) (bs:=b2) (m:=m1) (S:=S1) k1 hl iv (IZ hf) (fun id q1 q2=>by
   cases hq:m1 id with
   | none=>rfl
   | some p=>
    rcases k3 id p hq with h | ⟨_,h,_⟩
    ·rw [hn id (by omega) q2] at h;cases h
    ·omega) h2' lZ.2.1 (fun j q hq hb=>by
     rcases k3 j q hq with h | ⟨_,_,h⟩
     ·exact oJ j q h (by simp [hb])
     ·exact lZ.2.2 q.b h q.b hb rfl)
  refine ⟨m2,S2,g1,k2.trans g2,fun id p ap=>?_,?_,fun b hb=>g5 b (k5 b hb),fun b hb=>?_⟩
  ·rcases g3 id p ap with h | ⟨a1,a2,a3⟩
   ·rcases k3 id p h with h | ⟨a1,a2,a3⟩
    ·exact .inl h
    ·exact .inr ⟨a1,by omega,by simp [a3]⟩
   ·exact .inr ⟨by omega,a2,by simp [a3]⟩
  ·simp only [av];exact ⟨u,t,rfl,mi g2 g5 (fun _ _=>rfl) _ _ k4,g4⟩
  ·rcases g6 b hb with h | h
   ·exact (k6 b h).imp (fun h=>h) (fun h=>by simp [h])
   ·exact .inr (by simp [h])
def aqy {hp:Hp} {ct lo:Nat} {r:AV} {u:yf} (hh:aX O m S w H cH) (hl:de (own hp ct r).2.1 H) (iv:(own hp ct r).2.2<=cH) (hf:∀id o,az hp id=some o->id<ct)
  (hn:∀id,ct<=id->id<(own hp ct r).2.2->m id=none) (hr:og O.ai S w lo r u) (bj:O.w0.heap.size<=lo) (K9:∀j q,m j=some q->q.b<lo):
  ∃m' S',aX O m' S' w H cH/\dD m m'/\(∀id p,m' id=some p->m id=some p\/(ct<=id/\id<(own hp ct r).2.2/\lo<=p.b))/\aj O.ai m' S' w (own hp ct r).1 u/\(∀b,S b->S' b)/\(∀b,S' b->S b\/lo<=b):=by
 have one:∀(r:AV) (bs:List Nat),own hp ct r=fA hp ct r->iI O.ai S w lo r u bs->de (own hp ct r).2.1 H->(own hp ct r).2.2<=cH->(∀id,ct<=id->id<(own hp ct r).2.2->m id=none)->
   ∃m' S',aX O m' S' w H cH/\dD m m'/\(∀id p,m' id=some p->m id=some p\/(ct<=id/\id<(own hp ct r).2.2/\lo<=p.b))/\aj O.ai m' S' w (own hp ct r).1 u/\(∀b,S b->S' b)/\(∀b,S' b->S b\/lo<=b):=by
  intro r bs he hr hl iv hn;rw [he] at hl iv hn ⊢;have DF:=SK hr;obtain ⟨m',S',k1,k2,k3,k4,k5,k6⟩:=abd hh hl iv hn hr bj (fun j q hq hb=>by have:=K9 j q hq;have:=(DF _ hb).1;omega)
  exact ⟨m',S',k1,k2,fun id p h=>(k3 id p h).imp (fun h=>h) (fun h=>⟨h.1,h.2.1,(DF _ h.2.2).1⟩),k4,k5,fun b hb=>(k6 b hb).imp (fun h=>h) (fun h=>(DF _ h).1)⟩
 cases r with
 | au vs=>
  simp only [own] at hl iv hn ⊢;simp only [og] at hr;obtain ⟨us,bs,rfl,h1,h2⟩:=hr;have DF:=SL h1;obtain ⟨m',S',k1,k2,k3,k4,k5,k6⟩:=abe bj hh hl iv hf hn h1 h2 (fun j q hq hb=>by have:=K9 j q hq;have:=(DF _ hb).1;omega)
  exact ⟨m',S',k1,k2,fun id p h=>(k3 id p h).imp (fun h=>h) (fun h=>⟨h.1,h.2.1,(DF _ h.2.2).1⟩),by simp only [aj];exact ⟨us,rfl,k4⟩,k5,fun b hb=>(k6 b hb).imp (fun h=>h) (fun h=>(DF _ h).1)⟩
 | _=>
  simp only [og] at hr;obtain ⟨bs,hr⟩:=hr;exact one _ bs rfl hr hl iv hn
end
end
section
open Go
section
variable {O:bt} {m m':Mp} {S:Nat->Prop} {w:yj} {f:Nat->Option Nat}
def FQ (f:Nat->Option Nat) (m m':Mp):Prop:=∀id j,f id=some j->m' j=m id
mutual
def abf {ai:Nat->Nat} (hf:FQ f m m'):∀(v:AV) (u:yf),aj ai m S w v u->aj ai m' S w (bZ f v) u
 | .int _ _,_,h | .bool _,_,h | .du _ _,_,h | .str _,_,h | .lk,_,h | .ab,_,h | .iS,_,h | .kH,_,h | .undef,_,h=>by
  simpa only [bZ,aj] using h
 | .ptr id o,u,h=>by
  simp only [bZ]
  cases hi:f id with
  | none=>simp only [aj]
  | some j=>
   simp only [aj] at h ⊢;rw [hf id j hi];exact h
 | .aQ cs,u,h=>by
  simp only [bZ];exact qJ (fun _ h=>h) (fun _ _=>rfl) _ _ (by simp [aU]) h
 | .aJ ex n cs,u,h=>by
  simp only [bZ];exact qJ (fun _ h=>h) (fun _ _=>rfl) _ _ (by simp [aU]) h
 | .bW _ _ _ _,u,h=>by simp only [aj] at h
 | .aC id o n,u,h=>by
  simp only [bZ]
  cases hi:f id with
  | none=>simp only [aj]
  | some j=>
   simp only [aj] at h ⊢;rw [hf id j hi];exact h
 | .fn (.f g) first cap,u,h=>by
  simp only [bZ,aj] at h ⊢;obtain ⟨fi,ca,h1,h2,h3⟩:=h;exact ⟨fi,ca,h1,A1 hf first _ h2,A1 hf cap _ h3⟩
 | .fn (.y l) first cap,u,h=>by
  simp only [bZ]
  cases hi:f l with
  | none=>simp only [aj]
  | some j=>
   simp only [aj] at h ⊢;rw [hf l j hi];exact h
 | .map id,u,h=>by
  simp only [bZ]
  cases hi:f id with
  | none=>simp only [aj]
  | some j=>
   simp only [aj] at h ⊢;rw [hf id j hi];exact h
 | .jN ks vs,u,h=>by
  simp only [bZ];exact qJ (fun _ h=>h) (fun _ _=>rfl) _ _ (by simp [aU]) h
 | .it id,u,h=>by
  simp only [bZ]
  cases hi:f id with
  | none=>simp only [aj]
  | some j=>
   simp only [aj] at h ⊢;rw [hf id j hi];exact h
 | .agg cs,u,h=>by
  simp only [bZ,aj] at h ⊢;obtain ⟨xs,h1,h2⟩:=h;exact ⟨xs,h1,A1 hf cs _ h2⟩
 | .au cs,u,h=>by
  simp only [bZ,aj] at h ⊢;obtain ⟨xs,h1,h2⟩:=h;exact ⟨xs,h1,A1 hf cs _ h2⟩
def A1 {ai:Nat->Nat} (hf:FQ f m m'):∀(vs:List AV) (us:List yf),av ai m S w vs us->av ai m' S w (fB f vs) us
 | [],us,h=>by simpa only [fB,av] using h
 | v::r,us,h=>by
  simp only [fB,av] at h ⊢;obtain ⟨u,t,h1,h2,h3⟩:=h;exact ⟨u,t,h1,abf hf v u h2,A1 hf r t h3⟩
end
def akd {ai:Nat->Nat} (hf:FQ f m m') {cs:List AV} {b o:Nat} (h:bT ai m S w cs b o):bT ai m' S w (fB f cs) b o:=by
 obtain ⟨us,h1,_,h3⟩:=zy cs b o h;exact E0 _ us o (A1 hf cs us h1) h3
def Sj:∀cs:List AV,(fB f cs).length=cs.length
 | []=>rfl
 | c::r=>by simp [fB,Sj r]
def aah:∀(tm:Env) (i:Nat),ah (ll f tm) i=bZ f (ah tm i)
 | [],i=>by simp [ll,ah,bZ]
 | (j,v)::r,i=>by
  simp only [ll,ah]
  cases yv j i with
  | true=>rfl
  | false=>exact aah r i
def Zu (tm:Env) (i:Nat):∀live:List Nat,ah (eh tm live) i=ah tm i\/ah (eh tm live) i= .undef
 | []=> .inr rfl
 | j::r=>by
  simp only [eh,ah]
  cases hb:yv j i with
  | true=>rw [yo hb];exact .inl rfl
  | false=>exact Zu tm i r
def aai {tm:Env} {tmps:Array yf} (hf:FQ f m m') (h:cd O m S w tm tmps):cd O m' S w (ll f tm) tmps:=fun i=>by
 rw [aah];exact abf hf _ _ (h i)
def al6 {id j:Nat} {o:Obj} {p:Pl} (hf:FQ f m m') (hm:m id=some p) (hj:m' j=some p) (h:fH O m S w id o):fH O m' S w j (lz f o):=by
 cases o with
 | cells rw pu ex sz cs=>
  obtain ⟨q,arr,t,h1,h2,h3,h4,h5,h6,h7,h8,h9,iY⟩:=h;rw [hm] at h1;injection h1 with h1;subst h1
  cases pu with
  | true=>exact ⟨p,arr,t,hj,h2,h3,h4,h5,h6,CF (fun _ h=>h) (fun _ _=>rfl) _ _ _ (h8 rfl) rfl h7,h8,h9,iY⟩
  | false=>exact ⟨p,arr,t,hj,h2,h3,by rw [yO,Sj];exact h4,h5,by rw [yO,Sj];exact h6,akd hf h7,by simp,h9,iY⟩
 | mp rw ks vs=>
  obtain ⟨q,es,clock,h1,h2,h3,h4,h5,h6⟩:=h;rw [hm] at h1;injection h1 with h1;subst h1
  exact ⟨p,es,clock,hj,h2,A1 hf _ _ h3,A1 hf _ _ h4,h5,h6⟩
 | si s pos=>
  obtain ⟨q,t,h1,h2,h3,h4⟩:=h;rw [hm] at h1;injection h1 with h1;subst h1
  exact ⟨p,t,hj,h2,h3,h4⟩
 | lp tm ps cK body st pe=>
  obtain ⟨q,l,hi,h1,h2,h3,h4,h5,h6,h7,h8⟩:=h;rw [hm] at h1;injection h1 with h1;subst h1
  exact ⟨p,l,hi,hj,h2,h3,h4,h5,h6,aai hf h7,h8⟩
def Zv {i:Nat}:∀{l:List Nat} {k j:Nat},lQ i l k=some j->k<=j/\l[j-k]? =some i
 | [],k,j,h=>by simp [lQ] at h
 | x::r,k,j,h=>by
  simp only [lQ] at h
  cases hb:yv x i with
  | true=>
   simp_all
  | false=>
   rw [hb] at h;obtain ⟨h1,h2⟩:=Zv h
   grind
def zI {a b:Nat}:yM a b=true↔a<b:=by simp_all
def ME {hp:Hp} {j:Nat} {o':Obj}:∀{l:List Nat} {k:Nat} {acc:Hp},az (kV hp f l k acc) j=some o'->
  (∃i id o,l[i]? =some id/\j=k+i/\az hp id=some o/\o'=lz f o)\/az acc j=some o'
 | [],k,acc,h=> .inr h
 | x::r,k,acc,h=>by
  simp only [kV] at h
  cases hx:az hp x with
  | none=>
   simp only [hx] at h;rcases ME h with ⟨i,id,o,h1,h2,h3,h4⟩ | h
   ·exact .inl ⟨i+1,id,o,by simpa using h1,by omega,h3,h4⟩
   ·grind
  | some o=>
   simp only [hx] at h;rcases ME h with ⟨i,id,o,h1,h2,h3,h4⟩ | h
   ·exact .inl ⟨i+1,id,o,by simpa using h1,by omega,h3,h4⟩
   ·rw [iB] at h;by_cases hc:k=j
    ·simp only [hc,xm,yc] at h;exact .inl ⟨0,x,o,by simp,by omega,hx,h.symm⟩
    ·grind
def MF {base:Nat} {j:Nat} {o':Obj}:∀{hp:Hp},az (my base f hp) j=some o'->j<base/\∃o,az hp j=some o/\o'=lz f o
 | [],h=>by simp [my,az] at h
 | (i,q)::r,h=>by
  simp only [my] at h
  cases hb:yM i base with
  | true=>
   rw [hb] at h;simp only [yz] at h;rw [iB] at h;by_cases hc:i=j
   ·simp only [hc,xm,yc] at h;exact ⟨by rw [<-hc];exact zI.1 hb,q,by rw [iB];simp [hc],h.symm⟩
   ·simp only [hc,xh] at h;obtain ⟨h1,o,h2,h3⟩:=MF h;exact ⟨h1,o,by rw [iB];simp [hc,h2],h3⟩
  | false=>
   rw [hb] at h;obtain ⟨h1,o,h2,h3⟩:=MF h;have hc:¬i=j:=fun e=>by
    have:=zI.2 h1
    grind
   exact ⟨h1,o,by rw [iB];simp [hc,h2],h3⟩
def pL (m:Mp) (base:Nat) (seen:List Nat):Mp:=fun j=>
 if j<base then m j else match seen[j-base]? with
  | some id=>if kU base seen id=some j then m id else none
  | none=>none
def RX {base:Nat} {seen:List Nat} {j:Nat} {p:Pl} (h:pL m base seen j=some p):∃id,kU base seen id=some j/\m id=some p/\(j<base->id=j):=by
 unfold pL at h
 split at h
 ·rename_i hj;exact ⟨j,by simp [kU,zI.2 hj],h,fun _=>rfl⟩
 ·grind
def al7 {base:Nat} {seen:List Nat}:FQ (kU base seen) m (pL m base seen):=by
 intro id j h;have h0:=h;unfold kU at h
 cases hb:yM id base with
 | true=>
  rw [hb] at h;simp only [yz,yc] at h;subst h;simp [pL,zI.1 hb]
 | false=>
  rw [hb] at h;obtain ⟨h1,h2⟩:=Zv h
  have:¬j<base:=by omega
  simp only [pL,this,xh,h2,h0,xm]
def RC {s:St} {tmps:Array yf} {live:List Nat} (ht:cd O m S w s.tm tmps) (hh:aX O m S w s.hp s.ct) (hb:s.base<=s.ct):
  ∃m',cd O m' S w (aT live s).tm tmps/\aX O m' S w (aT live s).hp (aT live s).ct/\(aT live s).base=s.base/\s.base<=(aT live s).ct/\ck m S w s.hp m' S w (aT live s).hp s.base:=by
 simp only [aT];generalize adN:reach s.hp s.base 100000 (jx (eh s.tm live)++jt s.base s.hp) []=seen;have hr:=al7 (m:=m) (base:=s.base) (seen:=seen);have a7:∀j p,pL m s.base seen j=some p->j<s.base+seen.length:=by
  intro j p h;unfold pL at h
  grind
 have back:∀j o' p,az (kV s.hp (kU s.base seen) seen s.base (my s.base (kU s.base seen) s.hp)) j=some o'->pL m s.base seen j=some p->
   ∃id o,kU s.base seen id=some j/\az s.hp id=some o/\m id=some p/\o'=lz (kU s.base seen) o:=by
  intro j o' p ho hm;obtain ⟨id,h1,h2,h3⟩:=RX hm;rcases ME ho with ⟨i,Wk,o,g1,g2,g3,g4⟩ | ho
  ·have hj:¬j<s.base:=by omega
   have:pL m s.base seen j=if kU s.base seen Wk=some j then m Wk else none:=by
    simp only [pL,hj,xh,show j-s.base=i by omega,g1]
   grind
  ·obtain ⟨g1,o,g2,g3⟩:=MF ho
   grind
 refine ⟨pL m s.base seen,?_,⟨?_,a7,?_,hh.slt,?_,?_,hh.iH,hh.fY,fun j o' ho=>(by
  rcases ME ho with ⟨i,Wk,o,g1,g2,g3,g4⟩ | ho
  ·grind
  ·have:=(MF ho).1;omega)⟩,by trivial,by omega,⟨rfl,rfl,rfl,yr _,fun _ _ _=>rfl,fun _ h=>h,fun _ _=>rfl,fun _ h=> .inl h,?_,?_,fun _ r h=>⟨r,h⟩⟩⟩
 ·refine aai hr (fun i=>?_);rcases Zu s.tm i live with h | h
  ·rw [h];exact ht i
  ·rw [h];simp only [aj]
 ·intro j o' p ho hm;obtain ⟨id,o,h1,h2,h3,rfl⟩:=back j o' p ho hm;exact al6 hr h3 hm (hh.obj id o p h2 h3)
 ·intro i j oi oj pi pj hi hj bN gK e;obtain ⟨idi,o1,a1,a2,a3,_⟩:=back i oi pi hi bN;obtain ⟨idj,o2,b1,b2,b3,_⟩:=back j oj pj hj gK
  have:=hh.inj idi idj o1 o2 pi pj a2 b2 a3 b3 e
  grind
 ·intro j p hm;obtain ⟨id,_,h2,_⟩:=RX hm;exact hh.blt id p h2
 ·intro j p hm;obtain ⟨id,_,h2,_⟩:=RX hm;exact hh.low id p h2
 ·rintro b ⟨j,o',p,h1,h2,h3⟩;obtain ⟨id,o,_,g2,g3,_⟩:=back j o' p h1 h2;exact .inl ⟨id,o,p,g2,g3,h3⟩
 ·intro id p hid hm;simp [pL,hid,hm]
end
end
section
open Go
section
variable {O:bt} {m:Mp} {S:Nat->Prop} {w:yj} {hp:Hp} {ct:Nat}
def aaj (hh:aX O m S w hp ct) (id:Nat):aX O m S w (eG hp id) ct:=by
 have sub:∀i o,az (eG hp id) i=some o->az hp i=some o:=fun i o h=>by
  rw [ID] at h
  grind
 exact ⟨fun i o p h hm=>hh.obj i o p (sub i o h) hm,hh.lt,fun i j oi oj pi pj hi hj=>hh.inj i j oi oj pi pj (sub i oi hi) (sub j oj hj),hh.slt,hh.blt,hh.low,hh.iH,hh.fY,fun i o h=>hh.a7 i o (sub i o h)⟩
def abg {id b:Nat} (h:ek m (eG hp id) b):ek m hp b:=by
 obtain ⟨i,o,p,h1,h2,h3⟩:=h;rw [ID] at h1;by_cases hc:id=i
 ·grind
 ·simp only [hc,xh] at h1;exact ⟨i,o,p,h1,h2,h3⟩
def Ym (hh:aX O m S w hp ct) {id:Nat} {o:Obj} {p:Pl} (hg:az hp id=some o) (hm:m id=some p):¬ek m (eG hp id) p.b:=by
 rintro ⟨i,o',q,h1,h2,h3⟩;rw [ID] at h1;by_cases hc:id=i
 ·grind
 ·simp only [hc,xh] at h1;exact hc (hh.inj i id o' o q p h1 hg h2 hm h3).symm
def aom {ap:Hp} (hd:j0 hp ap) {b:Nat} (h:ek m ap b):ek m hp b:=by
 obtain ⟨i,o,p,h1,h2,h3⟩:=h
 have:=hd i
 rw [h1] at this
 cases hq:az hp i with
 | none=>rw [hq] at this;cases this
 | some q=>exact ⟨i,q,p,hq,h2,h3⟩
def YM {lo:Nat} {v v':AV} {ap:Hp} {n:Nat} (hh:aX O m S w hp ct) (hf:freeze n hp v=some (v',ap)) {u:yf} (hv:aj O.ai m S w v u):
  ∃S',aX O m S' w ap ct/\(∀b,S b->S' b)/\(∀b,S' b->S b\/ek m hp b)/\aU v'=true/\aj O.ai ff S' w v' u/\iI O.ai S' w lo v' u []:=by
 obtain ⟨h1,h2,h3⟩:=RQ (O:=O) hf;obtain ⟨S',g1,g2,g3⟩:=aa7 hh h1 (fun id o p ho hm=>by
  have:=h2 id
  rw [ho] at this
  cases hq:az hp id with
  | none=>rw [hq] at this;cases this
  | some q=>exact ⟨q,rfl⟩) (yr _) (fun id o ho=>(by
  have:=h2 id
  rw [ho] at this
  cases hq:az hp id with
  | none=>rw [hq] at this;cases this
  | some q=>exact hh.a7 id q hq))
 obtain ⟨k1,k2⟩:=h3 ap m S' w ct de.refl g1;have hr:=k1 u (mi (fun _ _ h=>h) g2 (fun _ _=>rfl) v u hv);have cm:aj O.ai ff S' w v' u:=qJ (fun _ h=>h) (fun _ _=>rfl) v' u k2 hr;refine ⟨S',g1,g2,g3,k2,cm,?_⟩
 cases v' with
 | bW _ _ _ _=>simp [aU] at k2
 | _=>exact ⟨rfl,cm,k2⟩
def ake {S':Nat->Prop} {lo:Nat} {v:AV} {u:yf} {bs:List Nat} (hS:∀b,S b->S' b) (hn:∀b,b∈bs->¬S' b) (h:iI O.ai S w lo v u bs):iI O.ai S' w lo v u bs:=by
 cases v with
 | bW ex sz n cs=>
  obtain ⟨b,o,c,arr,t,rfl,rfl,g1,g2,g3,g4,g5,g6,g7,g8,g9⟩:=h;exact ⟨b,o,c,arr,t,rfl,rfl,g1,g2,g3,hn b (by simp),g5,g6,g7,CF hS (fun _ _=>rfl) cs b o g9 rfl g8,g9⟩
 | _=>simp only [iI] at h ⊢;exact ⟨h.1,qJ hS (fun _ _=>rfl) _ _ h.2.2 h.2.1,h.2.2⟩
def Zw {lo:Nat} {v v':AV} {ap:Hp} {n:Nat} (hh:aX O m S w hp ct) (hf:qU n hp v=some (v',ap)) {u:yf} (hv:aj O.ai m S w v u) (bj:∀b,ek m hp b->lo<=b):
  ∃S' bs,aX O m S' w ap ct/\(∀b,S b->S' b)/\(∀b,S' b->S b\/ek m hp b)/\iI O.ai S' w lo v' u bs/\bs.Nodup/\(∀b,b∈bs->ek m hp b/\¬ek m ap b)/\(∀b,ek m ap b->ek m hp b):=by
 have frozen:freeze n hp v=some (v',ap)->∃S' bs,aX O m S' w ap ct/\(∀b,S b->S' b)/\(∀b,S' b->S b\/ek m hp b)/\iI O.ai S' w lo v' u bs/\bs.Nodup/\(∀b,b∈bs->ek m hp b/\¬ek m ap b)/\(∀b,ek m ap b->ek m hp b):=by
  intro hz;obtain ⟨S',g1,g2,g3,g4,g5,g6⟩:=YM (lo:=lo) hh hz hv
  exact ⟨S',[],g1,g2,g3,g6,by simp,by simp,fun b hb=>aom (RQ (O:=O) hz).2.1 hb⟩
 unfold qU at hf
 split at hf
 ·rename_i id o k
  split at hf
  ·rename_i ex sz cs hg
   cases hc:yE (o+k*sz) cs.length with
   | false=>rw [hc] at hf;cases hf
   | true=>
    rw [hc] at hf;obtain ⟨rfl,rfl⟩:=hf;have hle:=yu hc;obtain ⟨p,c,hm,rfl,h1,h2⟩:=hv;obtain ⟨p',arr,t,g1,g2,g3,g4,g5,g6,g7,g8,g9,g10⟩:=hh.obj id _ _ hg hm;rw [hm] at g1;injection g1 with g1
    subst g1;rw [g3] at h2;refine ⟨S,[p.b],aaj hh id,fun _ h=>h,fun _ h=> .inl h,?_,by simp,?_,fun b hb=>abg hb⟩
    ·refine ⟨p.b,p.o+o,c,arr,t,rfl,rfl,h1,?_,bj _ (Ja hg hm),g9 rfl,g2,?_,by omega,?_,CE _ (AW _ _ (g8 rfl))⟩
     ·intro hx;simp only [ye] at hx;have e1:=yo hx.2;have e2:=zI.1 hx.1.2;have e3:=g6 hx.1.1
      have:c*sz=k*sz:=by omega
      exact Nat.eq_of_mul_eq_mul_right e2 this
     ·simp only [slice,yQ,wi];omega
     ·exact CF (fun _ h=>h) (fun _ _=>rfl) _ _ _ (CE _ (AW _ _ (g8 rfl))) rfl (CH _ _ _ _ (rP _ _ _ _ g7))
    ·intro b hb;simp only [List.mem_singleton] at hb;subst hb;exact ⟨Ja hg hm,Ym hh hg hm⟩
  ·grind
 ·grind
def YN {lo n:Nat}:∀{vs dL:List AV} {us:List yf} {hp ap:Hp} {S:Nat->Prop},aX O m S w hp ct->zF n hp vs=some (dL,ap)->av O.ai m S w vs us->(∀b,ek m hp b->lo<=b)->
  ∃S' bs,(∀b,S b->S' b)/\(∀b,S' b->S b\/ek m hp b)/\lA O.ai S' w lo dL us bs/\bs.Nodup/\(∀b,b∈bs->ek m hp b)/\(∀b,S' b->b<w.heap.size)
 | [],dL,us,hp,ap,S,hh,hf,hv,bj=>by
  obtain ⟨rfl,rfl⟩:=hf;exact ⟨S,[],fun _ h=>h,fun _ h=> .inl h,by simp only [lA];exact ⟨hv,by trivial⟩,by simp,by simp,hh.slt⟩
 | v::r,dL,us,hp,ap,S,hh,hf,hv,bj=>by
  simp only [zF] at hf
  cases h1:qU n hp v with
  | none=>simp [h1] at hf
  | some q=>
   obtain ⟨v1,bB⟩:=q;simp only [h1] at hf
   cases h2:zF n bB r with
   | none=>simp [h2] at hf
   | some q2=>
    simp only [h2,yc,yq] at hf;obtain ⟨rfl,rfl⟩:=hf;obtain ⟨u,t,rfl,eZ,cY⟩:=hv;obtain ⟨S1,b1,k1,k2,k3,k4,k5,k6,k7⟩:=Zw (lo:=lo) hh h1 eZ bj;obtain ⟨S2,b2,g1,g2,g3,g4,g5,g6⟩:=YN (us:=t) k1 h2 (iA (fun _ _ h=>h) k2 (fun _ _=>rfl) _ _ cY) (fun b hb=>bj b (k7 b hb));have Uu:∀b,b∈b1->¬S2 b:=by
     intro b hb hs;rcases g2 b hs with h | h
     ·cases v1 with
      | bW ex sz n cs=>
       simp only [iI] at k4
       grind
      | _=>simp only [iI] at k4;rw [k4.1] at hb;cases hb
     ·grind
    refine ⟨S2,b1++b2,fun b hb=>g1 b (k2 b hb),fun b hb=>?_,?_,?_,?_,g6⟩
    ·grind
    ·simp only [lA];exact ⟨u,t,b1,b2,rfl,rfl,ake g1 Uu k4,g3⟩
    ·grind
    ·grind
def RY {lo:Nat}:∀{cs:List AV} {us:List yf},aH cs=true->av O.ai ff S w cs us->lA O.ai S w lo cs us []
 | [],us,_,h=>by simp only [av] at h;exact ⟨h,by trivial⟩
 | c::r,us,hp,h=>by
  obtain ⟨u,t,rfl,h1,h2⟩:=h;simp only [aH,ye] at hp;refine ⟨u,t,[],[],rfl,rfl,?_,RY hp.2 h2⟩
  cases c with
  | bW _ _ _ _=>simp [aU] at hp
  | _=>exact ⟨rfl,h1,hp.1⟩
def akf {lo:Nat} {v r:AV} {u:yf} (hh:aX O m S w hp ct) (hr:result hp v=some r) (hv:aj O.ai m S w v u) (bj:∀b,ek m hp b->lo<=b):
  ∃S',(∀b,S b->S' b)/\(∀b,S' b->S b\/ek m hp b)/\(∀b,S' b->b<w.heap.size)/\og O.ai S' w lo r u:=by
 unfold result at hr
 split at hr
 ·rename_i vs
  split at hr
  ·cases h1:zF deep hp vs with
   | none=>simp [h1] at hr
   | some q=>
    simp only [h1,yc] at hr;subst hr;obtain ⟨us,rfl,hv⟩:=hv;obtain ⟨S',bs,g1,g2,g3,g4,g5,g6⟩:=YN (lo:=lo) hh h1 hv bj;exact ⟨S',g1,g2,g6,us,bs,rfl,g3,g4⟩
  ·cases h1:freeze deep hp (.au vs) with
   | none=>simp [h1] at hr
   | some q=>
    obtain ⟨v',ap⟩:=q;simp only [h1,yc] at hr;subst hr;obtain ⟨S',g1,g2,g3,g4,g5,g6⟩:=YM (lo:=lo) hh h1 hv;refine ⟨S',g2,g3,g1.slt,?_⟩
    cases v' with
    | au cs=>
     obtain ⟨xs,rfl,g5⟩:=g5;exact ⟨xs,[],rfl,RY (by simpa [aU] using g4) g5,by simp⟩
    | _=>exact ⟨[],g6⟩
 ·rename_i PX
  cases h1:qU deep hp v with
  | none=>simp [h1] at hr
  | some q=>
   obtain ⟨v',ap⟩:=q;simp only [h1,yc] at hr;subst hr;obtain ⟨S',bs,g1,g2,g3,g4,_⟩:=Zw (lo:=lo) hh h1 hv bj;refine ⟨S',g2,g3,g1.slt,?_⟩
   cases v' with
   | au cs=>
    obtain ⟨rfl,h2,h3⟩:=g4;obtain ⟨xs,rfl,h2⟩:=h2;exact ⟨xs,[],rfl,RY (by simpa [aU] using h3) h2,by simp⟩
   | _=>exact ⟨bs,g4⟩
end
end
end VE
