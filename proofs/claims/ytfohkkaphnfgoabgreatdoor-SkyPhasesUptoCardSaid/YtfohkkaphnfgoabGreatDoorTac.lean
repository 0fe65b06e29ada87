import Derived.Laws.CopyOwn
import Derived.Test.YtfohkkaphnfgoabGreatDoorTab
set_option linter.all false
set_option maxRecDepth 100000
open Array renaming getElem?_eq_some_iff→xp,length_toList→vE
open Bool renaming and_eq_true→yf,false_eq_true→yC
open Go renaming Ending→yan,Loop→uA,MapEntry→ui,Next→yah,Obj→yaH,Oper→y5,Operand→xu,Program→y9,TypeDesc→vh,TypeId→yx,TypeInfo→ybz,Value→ye,World→yg,sizeOf→vB
open List renaming append_assoc→xC,cons_append→xn,eq_nil_of_length_eq_zero→yD,ext_getElem?→tQ,getElem?_append_left→xR,getElem?_append_right→xF,getElem?_drop→tL,getElem?_take_of_lt→vP,getElem?_toArray→tq,length_append→yW,length_drop→xY,length_take→yQ,map_cons→yS,mem_append→wD,size_toArray→uC,take_of_length_le→yE
open Nat renaming add_mul→we,add_zero→yV,beq→yt,beq_refl→vm,ble→yB,blt→yI,eq_of_beq_eq_true→yk,eq_zero_or_pos→xm,le_of_ble_eq_true→yr,le_refl→yv,lt_of_lt_of_le→yN,min_le_left→yam,mul_le_mul_right→yU,zero_add→yd
open Option renaming isSome_none→tx
open Option.some renaming injEq→yc
open Prod.mk renaming injEq→ym
open UInt8 renaming toNat→y7
namespace VE
section
open Go
section
variable {O:bq} {H:Hint} {m:Mp} {S:Nat->Prop} {w:yg} {tm:Env} {a:Act} {hp:Hp} {ct:Nat}
structure One (w w':yg) (g:Nat):Prop where
 os:w'.os=w.os
 tape:w'.tape=w.tape
 output:w'.output=w.output
 size:w'.heap.size=w.heap.size
 other:∀b,b≠g->w'.heap[b]? =w.heap[b]?
def Pd (w:yg) (g:Nat) (cs:Array ye):One w (w.setRow g cs) g:=
 ⟨rfl,rfl,rfl,by simp,fun b hb=>setRow_other w g b cs hb⟩
def Hj {id:Nat} {o:Obj} {p:Pl} (h:aw hp id=some o) (hm:m id=some p):dR m hp p.b:=⟨id,o,p,h,hm,rfl⟩
def ajM {id:Nat} {o':Obj} {b:Nat} (h:dR m (bh hp id o') b):dR m hp b:=by
 obtain ⟨i,o,p,h1,h2,h3⟩:=h;rw [pJ] at h1;by_cases hi:id=i
 ·subst hi
  cases hq:aw hp id with
  | none=>simp [hq] at h1
  | some q=>exact ⟨id,q,p,hq,h2,h3⟩
 ·simp only [hi,y8] at h1;exact ⟨i,o,p,h1,h2,h3⟩
def GY (hh:aV O m S w hp ct) {id:Nat} {o o':Obj} {p:Pl} {w':yg} (ho:aw hp id=some o) (hm:m id=some p) (hn:¬S p.b) (hw:One w w' p.b) (h':fg O m S w' id o') (hk:∀r:uA,w.heap[p.b]? =some (.loop r)->∃r':uA,w'.heap[p.b]? =some (.loop r')):
  aV O m S w' (bh hp id o') ct/\cm m S w hp m S w' (bh hp id o') ct:=by
 have aR:fE S w w':=fun b hb=>hw.other b (fun e=>hn (e▸hb))
 refine ⟨⟨?_,hh.lt,?_,?_,?_,hh.low,?_,?_,fun i q hq=>(by
  rw [pJ] at hq;by_cases hc:id=i
  ·subst hc;exact hh.a6 _ _ ho
  ·simp only [hc,y8] at hq;exact hh.a6 _ _ hq)⟩,⟨hw.os,hw.tape,hw.output,by rw [hw.size];exact yv _,?_,fun _ h=>h,fun b hb=>aR b hb,fun b hb=> .inl hb,fun b hb=> .inl (ajM hb),fun _ _ _ h=>h,fun b r hb=>?_⟩⟩
 rotate_right
 ·by_cases hc:b=p.b
  ·subst hc;exact hk r hb
  ·exact ⟨r,(hw.other b hc).trans hb⟩
 ·intro i q pi hi bJ;rw [pJ] at hi;by_cases hc:id=i
  ·subst hc;simp only [xh,ho,Option.isSome_some] at hi;injection hi with hi
   subst hi;exact h'
  ·simp only [hc,y8] at hi;refine pI (fun _ _ h=>h) (fun _ h=>h) aR (fun q' bV=>?_) (fun _ _ h=>h) (hh.obj i q pi hi bJ);exact hw.other _ (fun e=>hc (hh.inj i id q o q' p hi ho bV hm e).symm)
 ·intro i j oi oj pi pj hi hj bJ fL e;have key:∀{i:Nat} {oi:Obj},aw (bh hp id o') i=some oi->∃Js,aw hp i=some Js:=by
   intro i oi hi;rw [pJ] at hi;by_cases hc:id=i
   ·subst hc;exact ⟨o,ho⟩
   ·simp only [hc,y8] at hi;exact ⟨oi,hi⟩
  obtain ⟨Js,bU⟩:=key hi;obtain ⟨Jr,EV⟩:=key hj;exact hh.inj i j Js Jr pi pj bU EV bJ fL e
 ·intro b hb;rw [hw.size];exact hh.slt b hb
 ·intro i q hq;rw [hw.size];exact hh.blt i q hq
 ·intro b hb
  rw [hw.other b (fun e=>by have:=hh.low id p hm;omega)];exact hh.kH b hb
 ·rw [hw.size];exact hh.fF
 ·intro b _ hb;exact hw.other b (fun e=>hb (e▸Hj ho hm))
def rZ (O:bq) (m:Mp) (S:Nat->Prop) (w:yg) (a:Act) (hp:Hp) (ct:Nat) (o:y5) (v:AV) (an:Hp) (a7:Nat):Prop:=
 ∃n u w' m' S',(execOp a.eval o).run O.P w= .ok n w'/\(n= .value u\/(n= .skip/\u=undef))/\aV O m' S' w' an a7/\ai O.ah m' S' w' v u/\dn m m'/\cm m S w hp m' S' w' an ct
def ajN {ah:Nat->Nat} {v:AV} {u:ye} (h:ai ah m S w v u) (ho:br v=true):u.oneCell'=true:=by
 cases v with
 | fn f a b=>
  cases f with
  | f g=>simp only [ai] at h;obtain ⟨_,_,rfl,_⟩:=h;rfl
  | y l=>simp only [ai] at h;obtain ⟨_,_,rfl⟩:=h;rfl
 | int k n=>simp only [ai] at h;subst h;rfl
 | bool b=>simp only [ai] at h;subst h;rfl
 | dh k n=>simp only [ai] at h;subst h;rfl
 | str s=>simp only [ai] at h;obtain ⟨_,rfl,_⟩:=h;rfl
 | jU=>simp only [ai] at h;subst h;rfl
 | ptr i k=>simp only [ai] at h;obtain ⟨_,_,rfl⟩:=h;rfl
 | aO cs=>simp only [ai] at h;obtain ⟨_,_,rfl,_⟩:=h;rfl
 | ab=>simp only [ai] at h;subst h;rfl
 | aH e n cs=>simp only [ai] at h;rcases h with ⟨_,_,_,rfl,_⟩ | ⟨_,rfl,_,_⟩<;>rfl
 | cp _ _ _ _=>simp [br] at ho
 | aE i k n=>simp only [ai] at h;obtain ⟨_,_,_,rfl,_⟩:=h;rfl
 | ib=>simp only [ai] at h;subst h;rfl
 | jz=>simp only [ai] at h;subst h;rfl
 | map i=>simp only [ai] at h;obtain ⟨_,_,rfl⟩:=h;rfl
 | jj ks vs=>simp only [ai] at h;obtain ⟨_,_,_,rfl,_⟩:=h;rfl
 | it i=>simp only [ai] at h;obtain ⟨_,_,rfl⟩:=h;rfl
 | agg cs=>simp [br] at ho
 | aq cs=>simp [br] at ho
 | undef=>simp [br] at ho
def KO {ah:Nat->Nat}:∀{vs:List AV} {us:List ye},ap ah m S w vs us->bL vs=true->∀u∈us,u.oneCell'=true
 | [],us,h,_,u,hu=>by simp only [ap] at h;subst h;cases hu
 | v::r,us,h,ho,u,hu=>by
  obtain ⟨u',t,rfl,h1,h2⟩:=h;simp only [bL,yf] at ho;rcases List.mem_cons.1 hu with rfl | hu
  ·exact ajN h1 ho.1
  ·exact KO h2 ho.2 u hu
def Yd {arr:Array ye} {t:yx} {p:Pl} {cs new:List AV} {vs:List ye} {o:Nat} {S':Nat->Prop} {m':Mp} (hb:w.heap[p.b]? =some (.cells arr t (0,0))) (hr:bR O.ah m S w cs p.b p.o)
  (hv:ap O.ah m S w new vs) (hl:o+new.length<=cs.length) (hs:p.o+cs.length<=arr.size) {w':yg} (hm:dn m m') (hS:∀b,S b->S' b) (aR:fE S w w')
  (hw:w'.heap[p.b]? =some (.cells (arr.toList.take (p.o+o)++vs++arr.toList.drop (p.o+o+vs.length)).toArray t (0,0))):bR O.ah m' S' w' (over o new cs) p.b p.o:=by
 obtain ⟨us,h1,h2,h3⟩:=rD cs p.b p.o hr;have hvl:=iw _ _ hv;have h4:ap O.ah m S w (over o new cs) (us.take o++vs++us.drop (o+new.length)):=kW (kW (Dv o h1) hv) (GL _ h1);refine Dz _ _ _ (gO hm hS aR _ _ h4) (fun j u hj=>?_);have B6:∀k u,us[k]? =some u->arr[p.o+k]? =some u:=by
  intro k u hk
  have:=h3 k u hk
  simpa [World.cell?,hb] using this
 simp only [World.cell?,hw,tx,yC,y8];rw [tq];have e1:(arr.toList.take (p.o+o)).length=p.o+o:=by rw [yQ,vE];omega
 have e2:(us.take o).length=o:=by rw [yQ];omega
 by_cases c1:j<o
 ·have g1:(us.take o++vs++us.drop (o+new.length))[j]? =us[j]? :=by
   rw [xC,xR (by omega),vP c1]
  rw [g1] at hj;rw [xC,xR (by omega),vP (by omega)];simpa using B6 j u hj
 ·by_cases c2:j<o+vs.length
  ·have g1:(us.take o++vs++us.drop (o+new.length))[j]? =vs[j-o]? :=by
    rw [xC,xF (by omega),e2,xR (by omega)]
   rw [g1] at hj;rw [xC,xF (by omega),e1,xR (by omega),show p.o+j-(p.o+o)=j-o by omega];exact hj
  ·have g1:(us.take o++vs++us.drop (o+new.length))[j]? =us[j]? :=by
    rw [xC,xF (by omega),e2,xF (by omega),tL]
    congr 1
    omega
   rw [g1] at hj;rw [xC,xF (by omega),e1,xF (by omega),tL,show p.o+o+vs.length+(p.o+j-(p.o+o)-vs.length)=p.o+j by omega];simpa using B6 j u hj
def K2 {o:Nat} {new cs:List AV} (hl:o+new.length<=cs.length):(over o new cs).length=cs.length:=by
 simp only [over,yW,yQ,xY];omega
def WG {o:Nat} {new cs:List AV} (h:aK cs=true) (h':aK new=true):aK (over o new cs)=true:=
 Dl (Dl (Bl _ h) h') (zy _ _ h)
def al1 {o:y5} {t:yx} {x y:xu} {sz:Nat} {v:AV} {an:Hp} {a7:Nat} (hH:fp O H) (ht:cf O m S w tm a.tmps) (hh:aV O m S w hp ct)
  (ho:o.op= .store t x y) (hz:cL O.P t=some sz) (hv:cW tm hp ct (.st sz (aS H x) (aS H y))=some (v,an,a7)):rZ O m S w a hp ct o v an a7:=by
 simp only [cW] at hv;have rx:=cD hH ht x;cases hx:az tm (aS H x)<;>rw [hx] at hv rx<;>simp only [reduceCtorEq] at hv
 rename_i id k;simp only [ai] at rx;obtain ⟨p,hm,ex⟩:=rx
 split at hv
 case h_2=>cases hv
 rename_i pu NT z cs hg
 cases hc:(yt (cellsOf (az tm (aS H y))).length sz&&yB (k+sz) cs.length&&bL (cellsOf (az tm (aS H y)))) with
 | false=>rw [hc] at hv;cases hv
 | true=>
  rw [hc] at hv;simp only [yy,yc,ym] at hv;obtain ⟨rfl,rfl,rfl⟩:=hv;simp only [yf] at hc;have c1:=yk hc.1.1;have c2:=yr hc.1.2;have ry:=Pr (cD hH ht y) hc.2;have hl:=iw _ _ ry;obtain ⟨p',arr,t',g1,g2,g3,g4,g5,g6,g7,g8,g9,g10⟩:=hh.obj id _ _ hg hm;rw [hm] at g1;injection g1 with g1
  subst g1;have fw:=KO ry hc.2;have fW:=run_storeCells_at O.P p.b (p.o+k) t' (a.eval y).cells.toList 0 arr w g2 (by rw [hl];omega) fw;simp only [yV] at fW;have aqQ:(a.eval y).cells.size=sz:=by simp_all
  have nd:fg O m S (w.setRow p.b (arr.toList.take (p.o+k)++(a.eval y).cells.toList++arr.toList.drop (p.o+k+(a.eval y).cells.toList.length)).toArray) id
    (.cells true (pu&&aK (cellsOf (az tm (aS H y)))) NT z (over k (cellsOf (az tm (aS H y))) cs)):=by
   refine ⟨p,_,t',hm,setRow_heap w p.b arr _ t' _ g2,g3,by rw [K2 (by omega)];exact g4,?_,fun h=>by rw [K2 (by omega)];exact g6 h,?_,?_,fun _=>g9 rfl,by simp⟩
   ·grind
   ·exact Yd g2 g7 ry (by omega) (by omega) dn.refl (fun _ h=>h) (fun b hb=>setRow_other w p.b b _ (fun e=>g9 rfl (e▸hb))) (setRow_heap w p.b arr _ t' _ g2)
   ·intro h;simp only [yf] at h;exact WG (g8 h.1) h.2
  obtain ⟨e1,e2⟩:=GY hh hg hm (g9 rfl) (Pd w p.b _) nd (fun r hr=>by rw [g2] at hr;cases hr);refine ⟨.skip,undef,_,m,S,?_,.inr ⟨rfl,rfl⟩,e1,by simp [ai,ap,undef],dn.refl,e2⟩;simp only [execOp,ho,Instr.storeAt,ex,Instr.sureAddr,Sem.run_bind,Sem.run_pure,Result.andThen_ok,storeVar,mB hz,aqQ,yaJ,ud,y8];simp [fW]
def WH {d:vh} {k k':ye} (h:Instr.sameNow d k k'=some true):k=k':=by
 unfold Instr.sameNow at h
 split at h
 ·grind
 ·rename_i p q;simp only [yc] at h;have h2:(p.data==q.data)=true:=by cases p;exact h
  cases p;cases q
  grind
 ·grind
 ·cases h
def sameBits_self {d:vh} {k k':ye} (h:Instr.sameNow d k k'=some true) (n:Nat):Instr.sameBits n k' k=true:=by
 have e:=WH h;subst e;unfold Instr.sameNow at h
 split at h
 ·simp [Instr.sameBits]
 ·simp only [yc] at h;simp [Instr.sameBits,h]
 ·simp [Instr.sameBits]
 ·cases h
def Put (ah:Nat->Nat) (m:Mp) (S:Nat->Prop) (w:yg) (d:vh) (k x:ye) (es:List ui) (i:Nat) (jB dQ:List AV):Prop:=
 (Instr.findNow d k es i=some none/\ap ah m S w jB (es.map (·.key)++[k])/\ap ah m S w dQ (es.map (·.val)++[x]))\/
 ∃(j:Nat) (e0:ui),Instr.findNow d k es i=some (some (i+j,e0.val))/\es[j]? =some e0/\Instr.sameNow d k e0.key=some true/\ap ah m S w jB (es.map (·.key))/\ap ah m S w dQ ((es.map (·.val)).set j x)
def Y6 {ah:Nat->Nat} {vk vx:AV} {k x:ye} {d:vh} (hk:ai ah m S w vk k) (hx:ai ah m S w vx x) (hd:fits d vk=true):∀(ks vs:List AV) (es:List ui) (i:Nat) (jB dQ:List AV),
  ap ah m S w ks (es.map (·.key))->ap ah m S w vs (es.map (·.val))->Al vk vx ks vs=some (jB,dQ)->Put ah m S w d k x es i jB dQ
 | [],[],es,i,jB,dQ,h1,h2,h=>by
  simp only [ap,List.map_eq_nil_iff] at h1;subst h1;obtain ⟨rfl,rfl⟩:=h;exact .inl ⟨rfl,by simp [ap,hk],by simp [ap,hx]⟩
 | [],_::_,es,i,jB,dQ,h1,h2,h=>by simp [Al] at h
 | _::_,[],es,i,jB,dQ,h1,h2,h=>by simp [Al] at h
 | c::ks,v::vs,es,i,jB,dQ,h1,h2,h=>by
  cases es with
  | nil=>simp [ap] at h1
  | cons e es=>
   obtain ⟨u,t,⟨rfl,rfl⟩,hc,NS⟩:=h1;obtain ⟨u',t',⟨rfl,rfl⟩,hv,sT⟩:=h2;simp only [Al] at h
   cases sU:D8 vk c with
   | none=>simp [sU] at h
   | some b=>
    have hs:=X9 (d:=d) hk hc sU hd
    cases b with
    | true=>
     simp only [sU,yc,ym] at h;obtain ⟨rfl,rfl⟩:=h;refine .inr ⟨0,e,by simp [Instr.findNow,hs],rfl,hs,?_,?_⟩
     ·simp only [yS,ap];exact ⟨_,_,rfl,hc,NS⟩
     ·simp only [yS,List.set_cons_zero,ap];exact ⟨_,_,rfl,hx,sT⟩
    | false=>
     simp only [sU] at h
     cases hm:Al vk vx ks vs with
     | none=>simp [hm] at h
     | some q=>
      obtain ⟨k1,v1⟩:=q;simp only [hm,yc,ym] at h;obtain ⟨rfl,rfl⟩:=h;rcases Y6 hk hx hd ks vs es (i+1) k1 v1 NS sT hm with ⟨g1,g2,g3⟩ | ⟨j,e0,g1,g2,g3,g4,g5⟩
      ·refine .inl ⟨by simp [Instr.findNow,hs,g1],?_,?_⟩
       ·simp only [yS,xn,ap];exact ⟨_,_,rfl,hc,g2⟩
       ·simp only [yS,xn,ap];exact ⟨_,_,rfl,hv,g3⟩
      ·refine .inr ⟨j+1,e0,?_,by simpa using g2,g3,?_,?_⟩
       ·simp only [Instr.findNow,hs,g1]
        grind
       ·simp only [yS,ap];exact ⟨_,_,rfl,hc,g4⟩
       ·simp only [yS,List.set_cons_succ,ap];exact ⟨_,_,rfl,hv,g5⟩
def Dr (w:yg) (g:Nat) (o:yaH):One w {w with heap:=w.heap.setIfInBounds g o} g:=
 ⟨rfl,rfl,rfl,by simp,fun b hb=>by simp [Array.getElem?_setIfInBounds_ne (fun e=>hb e.symm)]⟩
def KB {g:Nat} {o q:yaH} (h:w.heap[g]? =some q):({w with heap:=w.heap.setIfInBounds g o}:yg).heap[g]? =some o:=by grind
def Ye {o:y5} {t kt e:yx} {x k y:xu} {kk:Nat} {v:AV} {an:Hp} {a7:Nat} (hH:fp O H) (ht:cf O m S w tm a.tmps) (hh:aV O m S w hp ct)
  (ho:o.op= .mapUpdate t x k y\/o.op= .insert t x k y) (hu:O.P.underlying t=some (.map kt e)) (qO:VE.keyOf O.P kt=some kk) (hv:cW tm hp ct (.od kk (aS H x) (aS H k) (aS H y))=some (v,an,a7)):rZ O m S w a hp ct o v an a7:=by
 simp only [cW] at hv;have rx:=cD hH ht x;cases hx:az tm (aS H x)<;>rw [hx] at hv rx<;>simp only [reduceCtorEq] at hv
 rename_i id;simp only [ai] at rx;obtain ⟨p,hm,ex⟩:=rx
 split at hv
 case h_2=>cases hv
 rename_i ks vs hg
 cases hc:rK kk (az tm (aS H k)) with
 | false=>simp [hc] at hv
 | true=>
  simp only [hc,Bool.not_true,yM] at hv
  cases bA:Al (az tm (aS H k)) (az tm (aS H y)) ks vs with
  | none=>simp [bA] at hv
  | some q=>
   obtain ⟨jB,dQ⟩:=q;simp only [bA,yc,ym] at hv;obtain ⟨rfl,rfl,rfl⟩:=hv;obtain ⟨d,jD,fB,TM⟩:=WC qO hc;obtain ⟨p',es,clock,g1,g2,g3,g4,g5,g6⟩:=hh.obj id _ _ hg hm;rw [hm] at g1;injection g1 with g1
   subst g1;have asu:=Y6 (d:=d) (cD hH ht k) (cD hH ht y) TM ks vs es.toList 0 jB dQ g3 g4 bA
   have fin:∀(CI:Array ui) (c':Nat),(Instr.mapUpdate t (a.eval x) (a.eval k) (a.eval y)).run O.P w= .ok () {w with heap:=w.heap.setIfInBounds p.b (.map CI c')}->
     ap O.ah m S w jB (CI.toList.map (·.key))->ap O.ah m S w dQ (CI.toList.map (·.val))->rZ O m S w a hp ct o (.aq []) (bh hp id (.mp true jB dQ)) ct:=by
    intro CI c' fW h1 h2
    have aR:fE S w {w with heap:=w.heap.setIfInBounds p.b (.map CI c')}:=fun b hb=>(Dr w p.b _).other b (fun e=>g5 rfl (e▸hb))
    have nd:fg O m S {w with heap:=w.heap.setIfInBounds p.b (.map CI c')} id (.mp true jB dQ):=
     ⟨p,CI,c',hm,KB g2,gO (fun _ _ h=>h) (fun _ h=>h) aR _ _ h1,gO (fun _ _ h=>h) (fun _ h=>h) aR _ _ h2,fun _=>g5 rfl,by simp⟩
    obtain ⟨e1,e2⟩:=GY hh hg hm (g5 rfl) (Dr w p.b _) nd (fun r hr=>by rw [g2] at hr;cases hr);refine ⟨.skip,undef,_,m,S,?_,.inr ⟨rfl,rfl⟩,e1,by simp [ai,ap,undef],dn.refl,e2⟩;rcases ho with ho | ho<;>simp [execOp,ho,fW]
   have pq:=Kr (P:=O.P) (w:=w) jD fB false (a.eval k);rcases asu with ⟨h1,h2,h3⟩ | ⟨j,e0,h1,h2,h3,h4,h5⟩
   ·refine fin (es.push ⟨a.eval k,a.eval y,clock⟩) (clock+1) ?_ (by simpa using h2) (by simpa using h3);rw [ex];simp [Instr.mapUpdate,run_underlying hu,MapKept.run_getObj_map g2,pq,Instr.findKey,run_underlying jD,h1,MapKept.run_setObj_map _ g2]
   ·have hj:es[j]? =some e0:=by simp_all
    simp only [yd] at h1;have ac9:=WH h3
    refine fin (es.modify j fun e=>{e with key:=a.eval k,val:=a.eval y}) clock ?_ ?_ ?_
    ·rw [ex];have Jv:Instr.sameBits 10000 (a.eval k) (a.eval k)=true:=by have:=sameBits_self h3 10000;rwa [<-ac9] at this
     simp [Instr.mapUpdate,run_underlying hu,MapKept.run_getObj_map g2,pq,Instr.findKey,run_underlying jD,h1,MapKept.run_setObj_map _ g2,hj,Instr.keyThatStays,Jv,ac9.symm]
    ·have:(es.modify j fun e=>{e with key:=a.eval k,val:=a.eval y}).toList.map (·.key)=es.toList.map (·.key):=by
      apply tQ
      grind
     grind
    ·have:(es.modify j fun e=>{e with key:=a.eval k,val:=a.eval y}).toList.map (·.val)=(es.toList.map (·.val)).set j (a.eval y):=by
      apply tQ
      grind
     grind
def al2 (t:ByteArray) (i:Nat):(t.get! i).toNat=(t.data.toList.map y7).getD i 0:=by
 have:t.get! i=t.data[i]! :=by cases t;rfl
 rw [this];by_cases h:i<t.data.size
 ·grind
 ·simp only [Array.getElem!_eq_getD,Array.getD_eq_getD_getElem?,List.getD_eq_getElem?_getD,List.getElem?_map,Array.getElem?_toList];rw [Array.getElem?_eq_none (by omega)];rfl
def ahX (t:ByteArray) (i:Nat):decodeL (t.data.toList.map y7) i=Utf8.decode t i:=by
 have eF:(t.data.toList.map y7).length=t.size:=by simp
 simp only [decodeL,Utf8.decode,al2,eF]
def ajO {o:y5} {x:xu} {v:AV} {an:Hp} {a7:Nat} (hH:fp O H) (ht:cf O m S w tm a.tmps) (hh:aV O m S w hp ct)
  (ho:o.op= .next x true) (hv:cW tm hp ct (.og (aS H x))=some (v,an,a7)):rZ O m S w a hp ct o v an a7:=by
 simp only [cW] at hv;have rx:=cD hH ht x;cases hx:az tm (aS H x)<;>rw [hx] at hv rx<;>simp only [reduceCtorEq] at hv
 rename_i id;simp only [ai] at rx;obtain ⟨p,hm,ex⟩:=rx
 split at hv
 case h_2=>cases hv
 rename_i s pos hg;obtain ⟨p',t,g1,g2,g3,g4⟩:=hh.obj id _ _ hg hm;rw [hm] at g1;injection g1 with g1
 subst g1;have aw:(getObj p.b).run O.P w= .ok (.stringIter t pos) w:=by simp [getObj,Sem.run,g2]
 have hlen:s.length=t.size:=by rw [<-g3];simp
 cases hc:yI pos s.length with
 | false=>
  rw [hc] at hv;simp only [yM,yc,ym] at hv;obtain ⟨rfl,rfl,rfl⟩:=hv;have a6:¬pos<t.size:=by
   intro h
   have:yI pos s.length=true:=by simp [yI];omega
   grind
  refine ⟨.value (.tuple #[.bool false]),.tuple #[.bool false],w,m,S,?_,.inl rfl,hh,by simp [ai,ap],dn.refl,cm.refl⟩;simp [execOp,ho,ex,Instr.next,aw,a6]
 | true=>
  rw [hc] at hv;simp only [yy] at hv;have a6:pos<t.size:=by
   simp_all
  cases hdc:decodeL s pos with | mk c wd=>
  rw [hdc] at hv;simp only [yc,ym] at hv;obtain ⟨rfl,rfl,rfl⟩:=hv;have hd:Utf8.decode t pos=(c,wd):=by rw [<-ahX,g3,hdc]
  have nd:fg O m S {w with heap:=w.heap.setIfInBounds p.b (.stringIter t (pos+wd))} id (.si s (pos+wd)):=⟨p,t,hm,KB g2,g3,g4⟩;obtain ⟨e1,e2⟩:=GY hh hg hm g4 (Dr w p.b _) nd (fun r hr=>by rw [g2] at hr;cases hr);refine ⟨.value (.tuple #[.bool true,goInt pos,.int .i32 c]),_,_,m,S,?_,.inl rfl,e1,by simp [ai,ap,goInt],dn.refl,e2⟩
  have bh:(setObj p.b (.stringIter t (pos+wd))).run O.P w= .ok () {w with heap:=w.heap.setIfInBounds p.b (.stringIter t (pos+wd))}:=by simp [setObj,Sem.run,g2]
  simp [execOp,ho,ex,Instr.next,aw,a6,hd,bh]
end
end
section
open Go
def GM {hp:Hp} {id i:Nat}:aw (ep hp id) i=if id=i then none else aw hp i:=by
 induction hp with
 | nil=>simp [ep,aw]
 | cons x r ih=>
  obtain ⟨j,q⟩:=x;simp only [ep];by_cases hj:j=id
  ·subst hj;simp only [vm,yy,ih,aw];by_cases hi:j=i
   ·grind
   ·have:yt j i=false:=by
     cases hq:yt j i with
     | false=>rfl
     | true=>exact absurd (yk hq) hi
    grind
  ·have hb:yt j id=false:=by
    cases hq:yt j id with
    | false=>rfl
    | true=>exact absurd (yk hq) hj
   simp only [hb,yM];rw [show aw ((j,q)::ep r id) i=bif yt j i then some q else aw (ep r id) i from rfl,ih];by_cases hi:j=i
   ·subst hi
    have:¬id=j:=fun h=>hj h.symm
    simp [vm,this,aw]
   ·have qR:yt j i=false:=by
     cases hq:yt j i with
     | false=>rfl
     | true=>exact absurd (yk hq) hi
    simp [qR,aw]
section
variable {O:bq} {H:Hint} {m:Mp} {S:Nat->Prop} {w:yg} {tm:Env} {a:Act} {hp:Hp} {ct:Nat}
def Src (P:y9) (w:yg) (size n:Nat) (news:List ye) (x:ye):Prop:=
 (∀w',(Builtin.lenOf x).run P w'= .ok n w')/\news.length=n*size/\
 ∀w',w'.heap=w.heap->∀k,k<=n->(Builtin.firstCells size k x).run P w'= .ok (news.take (k*size)).toArray w'
def GN {P:y9} {size n c:Nat} {b:Addr} {news:List ye} (hl:news.length=n*size) (hc:∀j u,news[j]? =some u->w.cell? (b.add j)=some u):
  Src P w size n news (.slice (some b) n c):=by
 refine ⟨fun w'=>by simp [Builtin.lenOf],hl,fun w' hw k hk=>?_⟩;have hle:k*size<=news.length:=by rw [hl];exact yU _ hk
 refine run_firstCells_some (P:=P) w' size k b n c (news.take (k*size)) (by rw [yQ];omega) (fun j v hv=>?_);rw [List.getElem?_take] at hv
 split at hv
 ·have:=hc j v hv
  simpa [World.cell?,hw] using this
 ·cases hv
def Y7 {P:y9} {size:Nat}:Src P w size 0 [] (.slice none 0 0):=
 ⟨fun w'=>by simp [Builtin.lenOf],by simp,fun w' _ k hk=>by simp [Builtin.firstCells]⟩
def agW (s:ByteArray) (k:Nat):(s.extract 0 k).data.map (fun b=>Value.int .u8 b.toNat)=((s.data.toList.map fun b=>Value.int .u8 (b.toNat:Int)).take k).toArray:=by
 have:(s.extract 0 k).data=s.data.extract 0 k:=by simp
 grind
def al3 {P:y9} {s:ByteArray}:Src P w 1 s.size (s.data.toList.map fun b=>Value.int .u8 (b.toNat:Int)) (.string s):=by
 refine ⟨fun w'=>by simp [Builtin.lenOf],by simp,fun w' _ k hk=>?_⟩;simp only [Builtin.firstCells,Sem.run_pure,Nat.mul_one];rw [agW]
def Wh {ah:Nat->Nat}:∀l:List UInt8,ap ah m S w (Ll (l.map y7)) (l.map fun b=>Value.int .u8 (b.toNat:Int))
 | []=>by simp [Ll,ap]
 | b::r=>by
  exact ⟨_,_,rfl,by simp [ai],Wh r⟩
def WI {size n:Nat} {vx:AV} {x:ye} {cs:List AV} (hh:aV O m S w hp ct) (hx:ai O.ah m S w vx x) (h:oR hp size vx=some (n,cs)):
  ∃us,ap O.ah m S w cs us/\Src O.P w size n us x:=by
 cases vx<;>simp only [oR,reduceCtorEq] at h
 case ab=>
  obtain ⟨rfl,rfl⟩:=h;subst hx;exact ⟨[],by simp [ap],Y7⟩
 case aH ex n' dP=>
  cases hc:yt dP.length (n'*size) with
  | false=>rw [hc] at h;cases h
  | true=>
   rw [hc] at h;obtain ⟨rfl,rfl⟩:=h;have hl:=yk hc;rcases hx with ⟨b,o,c,rfl,h1,h2,h3,h4,h5⟩ | ⟨ad,rfl,rfl,rfl⟩
   ·obtain ⟨us,g1,g2,g3⟩:=rD _ b o h5;exact ⟨us,g1,GN (by omega) (fun j u hj=>by rw [nM];exact g3 j u hj)⟩
   ·exact ⟨[],by simp [ap],GN (by simp) (fun j u hj=>by simp at hj)⟩
 case aE id o n'=>
  cases hg:aw hp id with
  | none=>simp [hg] at h
  | some ob=>
   cases ob<;>simp only [hg,reduceCtorEq] at h
   rename_i rw pu ex z dP
   cases hc:yB (o+n'*size) dP.length with
   | false=>rw [hc] at h;cases h
   | true=>
    rw [hc] at h;simp only [yy,yc,ym] at h;obtain ⟨rfl,rfl⟩:=h;have hl:=yr hc;obtain ⟨p,c,hm,rfl,h1,h2⟩:=hx;have hr:=PN (o:=0) (n:=0) hh hg hm;have eZ:=Bo (n'*size) _ _ _ (pG o _ _ _ hr);obtain ⟨us,g1,g2,g3⟩:=rD _ p.b (p.o+o) eZ;refine ⟨us,g1,GN ?_ (fun j u hj=>by rw [nM];exact g3 j u hj)⟩
    grind
def ahY {size n:Nat} {vx:AV} {x:ye} {cs:List AV} (hh:aV O m S w hp ct) (hx:ai O.ah m S w vx x) (h:rQ hp size vx=some (n,cs)):
  ∃us,ap O.ah m S w cs us/\Src O.P w size n us x:=by
 cases vx<;>try exact WI hh hx h
 simp only [rQ] at h
 cases hc:yt size 1 with
 | false=>rw [hc] at h;cases h
 | true=>
  rw [hc] at h;obtain ⟨rfl,rfl⟩:=h
  have:=yk hc
  subst this;obtain ⟨t,rfl,rfl⟩:=hx;refine ⟨_,Wh _,?_⟩
  have:(List.map y7 t.data.toList).length=t.size:=by simp
  rw [this];exact al3
def agi {P:y9} {t u ty e:yx} {i:ybz} (ht:P.underlying t=some (.slice e)) (hu:(∃e',P.underlying u=some (.slice e'))\/P.underlying u=some .string) (hi:P.info? e=some i)
  {g o ic oX:Nat} {Jw:Array ye} {te:yx} (hg:w.heap[g]? =some (.cells Jw te (0,0))) {x:ye} {n:Nat} {news:List ye} (hs:Src P w i.size n news x) (h1:∀u∈news,u.oneCell'=true)
  (Ea:ic+n<=oX) (Cb:o+ic*i.size+news.length<=Jw.size):
  (Builtin.append_ #[t,u] ty #[.slice (some ⟨g,o,none⟩) ic oX,x]).run P w=
   .ok (.slice (some ⟨g,o,none⟩) (ic+n) oX) (w.setRow g (Jw.toList.take (o+ic*i.size)++news++Jw.toList.drop (o+ic*i.size+news.length)).toArray):=by
 obtain ⟨mr,zb,TQ⟩:=hs;have hf:=TQ w rfl n (yv _);rw [yE (by omega)] at hf;have aR:=run_storeCells_at P g (o+ic*i.size) te news 0 Jw w hg (by omega) h1;rcases hu with ⟨e',hd⟩ | hd<;>
  simp [Builtin.append_,run_underlying ht,run_underlying hd,vB,typeInfo,hi,mr,Ea,hf,nM,aR]
def O1 {P:y9} {t u ty e:yx} {i:ybz} {z:ye} (ht:P.underlying t=some (.slice e)) (hu:(∃e',P.underlying u=some (.slice e'))\/P.underlying u=some .string) (hi:P.info? e=some i) (hz:i.zero=some z)
  {s:ye} {base:Option Addr} {ic oX:Nat} (es:s= .slice base ic oX) {mj:List ye} (ho:Src P w i.size ic mj s) {x:ye} {n:Nat} {news:List ye} (hs:Src P w i.size n news x)
  (hg:oX<ic+n) (NU:ic+n<=1099511627776) (TP:(ic+n)*i.bytes<=1099511627776):
  (Builtin.append_ #[t,u] ty #[s,x]).run P w=
   .ok (.slice (some ⟨w.heap.size,0,none⟩) (ic+n) (grownCap w (ic+n) oX e))
    (w.drew.alloc (.cells ((mj++news).toArray++Builtin.zeroCells z.cells (grownCap w (ic+n) oX e-(ic+n))) e)):=by
 obtain ⟨mr,zb,TQ⟩:=hs;obtain ⟨ho1,TR,ho3⟩:=ho;have hf:=TQ w.drew rfl n (yv _);rw [yE (by omega)] at hf;have hfo:=ho3 w.drew rfl ic (yv _);have hn:¬(ic+n<=oX):=by omega
 have asv:¬(9223372036854775807<((ic:Int)+(n:Int))):=by omega
 have Cb:=growslice_fits (need:=ic+n) (old:=oX) (bytes:=i.bytes) hg (by omega);have asw:¬(281474976710656<Builtin.nextslicecap (ic+n) oX*i.bytes):=by omega
 subst es;rcases hu with ⟨e',hd⟩ | hd
 all_goals
  simp [Builtin.append_,run_underlying ht,run_underlying hd,vB,typeInfo,zeroValue,hi,hz,mr,hn,asv,asw,Question.forced,hf,hfo,newRow,askRoom,grownCap]
  grind
def Pv {e:yx} {z:ye} {sz need cap:Nat} {cs:List AV} {us:List ye} (hh:aV O m S w hp ct) (hr:ap O.ah m S w cs us) (hl:us.length=need*sz) (hz:z.cells.size=sz)
  (L4:Bool) (hpp:L4=true->aK cs=true) (hc:need<=cap):
  let w':=w.drew.alloc (.cells (us.toArray++Builtin.zeroCells z.cells (cap-need)) e)
  let p:Pl:=⟨w.heap.size,0,cap*sz,sz⟩
  ∀m',dn m m'->m' ct=some p->fg O m' S w' ct (.cells true L4 false sz cs):=by
 intro w' p m' hm hi;have aR:fE S w w':=fun b hb=>by
  have:=hh.slt b hb
  exact RowKit.Below.heap_alloc w.drew _ b (by simpa using this)
 have kI:w'.heap[w.heap.size]? =some (.cells (us.toArray++Builtin.zeroCells z.cells (cap-need)) e (0,0)):=heap_alloc_new w.drew _;have ki:=iw _ _ hr;refine ⟨p,_,e,hi,kI,rfl,?_,?_,by simp,?_,hpp,?_,by simp⟩
 ·show cs.length<=cap*sz
  rw [<-ki,hl];exact yU _ hc
 ·show 0+cap*sz<=_
  rw [Array.size_append,uC,size_zeroCells,hz,hl,<-we]
  grind
 ·refine Ps kI cs us 0 (gO hm (fun _ h=>h) aR _ _ hr) (fun j u hj=>?_)
  grind
 ·intro _ hS
  have:=hh.slt _ hS
  grind
def af5 (hh:aV O m S w hp ct) (g:yaH):fE S w (w.drew.alloc g):=fun b hb=>by
 have:=hh.slt b hb
 exact RowKit.Below.heap_alloc w.drew _ b (by simpa using this)
def Pw (hh:aV O m S w hp ct) {hp0:Hp} {g:yaH} {p:Pl} {o:Obj} (Mw:∀i q,aw hp0 i=some q->aw hp i=some q) (hb:p.b=w.heap.size)
  (ho:∀m',dn m m'->m' ct=some p->fg O m' S (w.drew.alloc g) ct o):
  aV O (fh m ct p) S (w.drew.alloc g) ((ct,o)::hp0) (ct+1)/\cm m S w hp (fh m ct p) S (w.drew.alloc g) ((ct,o)::hp0) ct:=by
 have hn:m ct=none:=by
  cases h:m ct with
  | none=>rfl
  | some q=>have:=hh.lt _ _ h;omega
 have hle:=jJ hn (p:=p);have aR:=af5 hh g;have hold:∀b,b<w.heap.size->(w.drew.alloc g).heap[b]? =w.heap[b]? :=fun b hb=>RowKit.Below.heap_alloc w.drew _ b (by simpa using hb)
 have eF:(w.drew.alloc g).heap.size=w.heap.size+1:=by simp
 have gZ:∀i q,aw ((ct,o)::hp0) i=some q->i≠ct->aw hp i=some q:=fun i q h hi=>by
  rw [gP,yF (fun e=>hi e.symm)] at h
  grind
 refine ⟨⟨?_,?_,?_,?_,?_,?_,?_,?_,fun i q hq=>(by
  by_cases hc:i=ct
  ·omega
  ·have:=hh.a6 _ _ (gZ i q hq hc);omega)⟩,⟨rfl,rfl,rfl,by omega,?_,fun _ h=>h,fun b hb=>aR b hb,fun b hb=> .inl hb,?_,fun i q _ h=>hle i q h,fun b r hb=>⟨r,(hold b (xp.1 hb).1).trans hb⟩⟩⟩
 ·intro i q pi hi bJ;by_cases hc:i=ct
  ·subst hc;rw [gP] at hi;simp only [xh,yc] at hi;subst hi;exact ho _ hle dW
  ·rw [dV hc] at bJ;exact pI hle (fun _ h=>h) aR (fun q' bV=>hold _ (hh.blt i q' bV)) (fun _ _ h=>h) (hh.obj i q pi (gZ i q hi hc) bJ)
 ·intro i q bJ;by_cases hc:i=ct
  ·omega
  ·rw [dV hc] at bJ;have:=hh.lt i q bJ;omega
 ·intro i j oi oj pi pj hi hj bJ fL e;by_cases ci:i=ct
  ·by_cases cj:j=ct
   ·grind
   ·subst ci;rw [dW] at bJ;rw [dV cj] at fL;injection bJ with bJ
    subst bJ
    have:=hh.blt j pj fL
    omega
  ·rw [dV ci] at bJ;by_cases cj:j=ct
   ·subst cj;rw [dW] at fL;injection fL with fL
    subst fL
    have:=hh.blt i pi bJ
    omega
   ·rw [dV cj] at fL;exact hh.inj i j oi oj pi pj (gZ i oi hi ci) (gZ j oj hj cj) bJ fL e
 ·intro b hb;have:=hh.slt b hb;omega
 ·intro i q bJ;by_cases hc:i=ct
  ·subst hc;rw [dW] at bJ;injection bJ with bJ
   subst bJ;omega
  ·rw [dV hc] at bJ;have:=hh.blt i q bJ;omega
 ·intro i q bJ;have h0:=hh.fF;by_cases hc:i=ct
  ·subst hc;rw [dW] at bJ;injection bJ with bJ
   subst bJ;omega
  ·rw [dV hc] at bJ;exact hh.low i q bJ
 ·intro b hb;have h0:=hh.fF;exact (hold b (by omega)).trans (hh.kH b hb)
 ·have h0:=hh.fF;omega
 ·intro b hb _;exact hold b hb
 ·rintro b ⟨i,q,pi,h1,h2,h3⟩;by_cases hc:i=ct
  ·subst hc;rw [dW] at h2;injection h2 with h2
   subst h2;exact .inr (by omega)
  ·rw [dV hc] at h2;exact .inl ⟨i,q,pi,gZ i q h1 hc,h2,h3⟩
def ahZ (hh:aV O m S w hp ct) {id:Nat} {o o':Obj} {p p':Pl} {w':yg} (hg:aw hp id=some o) (hm:m id=some p) (hn:¬S p.b) (hw:One w w' p.b) (hk:∀r:uA,w.heap[p.b]? =some (.loop r)->∃r':uA,w'.heap[p.b]? =some (.loop r')) (hb:p'.b=p.b)
  (ho:∀m',dn m m'->m' ct=some p'->fg O m' S w' ct o'):
  aV O (fh m ct p') S w' ((ct,o')::ep hp id) (ct+1)/\cm m S w hp (fh m ct p') S w' ((ct,o')::ep hp id) ct:=by
 have jE:m ct=none:=by
  cases h:m ct with
  | none=>rfl
  | some q=>have:=hh.lt _ _ h;omega
 have hle:=jJ jE (p:=p');have aR:fE S w w':=fun b hb=>hw.other b (fun e=>hn (e▸hb))
 have gZ:∀i q,aw ((ct,o')::ep hp id) i=some q->i≠ct->aw hp i=some q/\i≠id:=fun i q h hi=>by
  rw [gP,yF (fun e=>hi e.symm),GM] at h
  grind
 have ada:∀i q pi,aw hp i=some q->i≠id->m i=some pi->pi.b≠p.b:=fun i q pi h hi bJ e=>hi (hh.inj i id q o pi p h hg bJ hm e)
 refine ⟨⟨?_,?_,?_,?_,?_,?_,?_,?_,fun i q hq=>(by
  by_cases hc:i=ct
  ·omega
  ·have:=hh.a6 _ _ (gZ i q hq hc).1;omega)⟩,⟨hw.os,hw.tape,hw.output,by rw [hw.size];exact yv _,?_,fun _ h=>h,fun b hb=>aR b hb,fun b hb=> .inl hb,?_,fun i q _ h=>hle i q h,fun b r hb=>(by
  by_cases hc:b=p.b
  ·grind
  ·exact ⟨r,(hw.other b hc).trans hb⟩)⟩⟩
 ·intro i q pi hi bJ;by_cases hc:i=ct
  ·subst hc;rw [gP] at hi;simp only [xh,yc] at hi;subst hi;exact ho _ hle dW
  ·rw [dV hc] at bJ;obtain ⟨h1,h2⟩:=gZ i q hi hc;exact pI hle (fun _ h=>h) aR (fun q' bV=>hw.other _ (ada i q q' h1 h2 bV)) (fun _ _ h=>h) (hh.obj i q pi h1 bJ)
 ·intro i q bJ;by_cases hc:i=ct
  ·omega
  ·rw [dV hc] at bJ;have:=hh.lt i q bJ;omega
 ·intro i j oi oj pi pj hi hj bJ fL e;by_cases ci:i=ct
  ·by_cases cj:j=ct
   ·grind
   ·subst ci;rw [dW] at bJ;rw [dV cj] at fL
    grind
  ·rw [dV ci] at bJ;obtain ⟨h1,h2⟩:=gZ i oi hi ci;by_cases cj:j=ct
   ·subst cj;rw [dW] at fL;injection fL with fL
    subst fL;exact (ada i oi pi h1 h2 bJ (by rw [e,hb])).elim
   ·rw [dV cj] at fL;exact hh.inj i j oi oj pi pj h1 (gZ j oj hj cj).1 bJ fL e
 ·intro b hb;rw [hw.size];exact hh.slt b hb
 ·intro i q bJ;rw [hw.size];by_cases hc:i=ct
  ·subst hc;rw [dW] at bJ;injection bJ with bJ
   subst bJ;rw [hb];exact hh.blt id p hm
  ·rw [dV hc] at bJ;exact hh.blt i q bJ
 ·intro i q bJ;by_cases hc:i=ct
  ·subst hc;rw [dW] at bJ;injection bJ with bJ
   subst bJ;rw [hb];exact hh.low id p hm
  ·rw [dV hc] at bJ;exact hh.low i q bJ
 ·intro b hb
  rw [hw.other b (fun e=>by have:=hh.low id p hm;omega)];exact hh.kH b hb
 ·rw [hw.size];exact hh.fF
 ·intro b _ cO;exact hw.other b (fun e=>cO (e▸Hj hg hm))
 ·rintro b ⟨i,q,pi,h1,h2,h3⟩;by_cases hc:i=ct
  ·subst hc;rw [dW] at h2;injection h2 with h2
   subst h2;exact .inl ⟨id,o,p,hg,hm,by rw [<-h3,hb]⟩
  ·rw [dV hc] at h2;exact .inl ⟨i,q,pi,(gZ i q h1 hc).1,h2,h3⟩
def al4 {P:y9} {e:yx} {s cG:Nat} {z:AV} (hs:cL P e=some s) (hb:AO P e=some cG) (hz:mg P e=some z):
  ∃ti zv,P.info? e=some ti/\ti.size=s/\ti.bytes=cG/\ti.zero=some zv/\z=ek zv:=by
 unfold cL at hs;unfold AO at hb;unfold mg at hz
 cases hi:P.info? e with
 | none=>simp [hi] at hs
 | some ti=>
  simp only [hi,yc] at hs hb hz
  cases dZ:ti.zero with
  | none=>simp [dZ] at hz
  | some zv=>
   grind
def GZ {o:y5} {v:AV} {u:ye} {w':yg} {m':Mp} {S':Nat->Prop} {an:Hp} {a7:Nat} (h1:(execOp a.eval o).run O.P w= .ok (.value u) w') (h2:aV O m' S' w' an a7) (h3:ai O.ah m' S' w' v u)
  (h4:dn m m') (h5:cm m S w hp m' S' w' an ct):rZ O m S w a hp ct o v an a7:=⟨_,u,w',m',S',h1,.inl rfl,h2,h3,h4,h5⟩
def ajP {o:y5} {b':yx} {t u e:yx} {sz cG:Nat} {z:AV} {x y:xu} {v:AV} {an:Hp} {a7:Nat} (hH:fp O H) (ht:cf O m S w tm a.tmps) (hh:aV O m S w hp ct)
  (fW:(execOp a.eval o).run O.P w=((do pure (.value (<-Builtin.append_ #[t,u] b' #[a.eval x,a.eval y])):Sem yah)).run O.P w)
  (AT:O.P.underlying t=some (.slice e)) (hu:(∃e',O.P.underlying u=some (.slice e'))\/O.P.underlying u=some .string) (hs:cL O.P e=some sz) (hb:AO O.P e=some cG) (hz:mg O.P e=some z) (sX:(cellsOf z).length=sz)
  (hv:cW tm hp ct (.dl sz cG (aS H x) (aS H y))=some (v,an,a7)):rZ O m S w a hp ct o v an a7:=by
 simp only [cW] at hv;obtain ⟨ti,zv,sZ,rfl,rfl,TS,rfl⟩:=al4 hs hb hz;have aQ:∀u' w',(Builtin.append_ #[t,u] b' #[a.eval x,a.eval y]).run O.P w= .ok u' w'->(execOp a.eval o).run O.P w= .ok (.value u') w':=fun u' w' h=>by
  rw [fW,Sem.run_bind,h];rfl
 have pZ:m ct=none:=by
  cases h:m ct with
  | none=>rfl
  | some q=>have:=hh.lt _ _ h;omega
 have Ju:zv.cells.size=ti.size:=by
  have:=iw _ _ (Dk (ah:=O.ah) (m:=m) (S:=S) (w:=w) zv)
  rw [<-sX,<-this];simp
 cases Cc:rQ hp ti.size (az tm (aS H y)) with
 | none=>simp [Cc] at hv
 | some q=>
  obtain ⟨n,new⟩:=q;simp only [Cc] at hv;obtain ⟨news,lR,dT⟩:=ahY hh (cD hH ht y) Cc;have NV:=iw _ _ lR;have rx:=cD hH ht x
  cases hx:az tm (aS H x) with
  | ab=>
   rw [hx] at hv rx;simp only at hv;simp only [ai] at rx
   cases h0:yt n 0 with
   | true=>
    rw [h0] at hv;simp only [yy,yc,ym] at hv;obtain ⟨rfl,rfl,rfl⟩:=hv;have lS:=yk h0;subst lS;have Rj:news=[]:=yD (by rw [dT.2.1];simp)
    subst Rj;have hf:=dT.2.2 w rfl 0 (yv _);have iW:=dT.1 w;refine ⟨.value (.slice none 0 0),.slice none 0 0,w,m,S,?_,.inl rfl,hh,by simp [ai],dn.refl,cm.refl⟩;rw [fW,rx];rcases hu with ⟨e',hu⟩ | hu<;>
     simp [Builtin.append_,run_underlying AT,run_underlying hu,vB,typeInfo,sZ,iW,hf]
   | false=>
    rw [h0] at hv;simp only [yM] at hv
    cases hc:(yB n room&&(yB (n*ti.bytes) room&&yI 0 ti.size)) with
    | false=>rw [hc] at hv;cases hv
    | true=>
     rw [hc] at hv;simp only [yy,yc,ym] at hv;obtain ⟨rfl,rfl,rfl⟩:=hv;simp only [yf] at hc;have c1:=yr hc.1;have c2:=yr hc.2.1;simp only [room] at c1 c2;have lS:0<n:=by
      rcases xm n with h | h
      ·subst h;simp at h0
      ·exact h
     have hr:=O1 (P:=O.P) (ty:=b') (w:=w) AT hu sZ TS (s:= .slice none 0 0) rfl (Y7 (P:=O.P) (size:=ti.size)) dT (by omega) (by omega) (by simpa using c2);simp only [yd,List.nil_append] at hr;have kP:=grownCap_ge w n 0 e;have kI:=Pv (e:=e) (z:=zv) (cap:=grownCap w n 0 e) hh lR (need:=n) (sz:=ti.size) dT.2.1 Ju (aK new) (fun h=>h) kP;obtain ⟨k1,k2⟩:=Pw hh (hp0:=hp) (p:=⟨w.heap.size,0,grownCap w n 0 e*ti.size,ti.size⟩) (fun _ _ h=>h) rfl kI;exact GZ (aQ _ _ (by rw [rx];exact hr)) k1 (by simp only [ai];exact ⟨_,_,dW,rfl,kP,by simp⟩) (jJ pZ) k2
  | aH ex k cs=>
   rw [hx] at hv rx
   cases ex with
   | false=>simp at hv
   | true=>
    simp only at hv;have rx0:=rx;simp only [ai] at rx;have rx1:∃ad mj,a.eval x= .slice (some ad) k k/\ap O.ah m S w cs mj/\mj.length=cs.length/\(∀(j:Nat) (u:ye),mj[j]? =some u->w.cell? (ad.add j)=some u)/\aK cs=true:=by
     rcases rx with ⟨bb,oo,c,ex,h1,h2,h3,h4,h5⟩ | ⟨ad,ex,rfl,rfl⟩
     ·have pq:c=k:=h2 (by trivial);subst pq;obtain ⟨mj,g1,g2,g3⟩:=rD cs bb oo h5;exact ⟨_,mj,ex,g1,g2,fun j u hj=>by rw [nM];exact g3 j u hj,h4⟩
     ·exact ⟨ad,[],ex,by simp [ap],rfl,fun j u hj=>by simp at hj,rfl⟩
    obtain ⟨ad,mj,ex,g1,g2,g3,h4⟩:=rx1
    cases h0:yt n 0 with
    | true=>
     rw [h0] at hv;simp only [yy,yc,ym] at hv;obtain ⟨rfl,rfl,rfl⟩:=hv;have lS:=yk h0;subst lS;have Rj:news=[]:=yD (by rw [dT.2.1];simp)
     subst Rj;have hf:=dT.2.2 w rfl 0 (yv _);have iW:=dT.1 w;refine ⟨.value (a.eval x),a.eval x,w,m,S,?_,.inl rfl,hh,rx0,dn.refl,cm.refl⟩;rw [fW,ex];rcases hu with ⟨e',hu⟩ | hu<;>
      simp [Builtin.append_,run_underlying AT,run_underlying hu,vB,typeInfo,sZ,iW,hf,storeCells]
    | false=>
     rw [h0] at hv;simp only [yM] at hv
     cases hc:(yB (k+n) room&&(yB ((k+n)*ti.bytes) room&&(yt cs.length (k*ti.size)&&yI 0 ti.size))) with
     | false=>rw [hc] at hv;cases hv
     | true=>
      rw [hc] at hv;simp only [yy,yc,ym] at hv;obtain ⟨rfl,rfl,rfl⟩:=hv;simp only [yf] at hc;have c1:=yr hc.1;have c2:=yr hc.2.1;have c3:=yk hc.2.2.1;simp only [room] at c1 c2;have lS:0<n:=by
       rcases xm n with h | h
       ·subst h;simp at h0
       ·exact h
      have TU:Src O.P w ti.size k mj (.slice (some ad) k k):=GN (by omega) g3;have hr:=O1 (P:=O.P) (ty:=b') (w:=w) AT hu sZ TS rfl TU dT (by omega) c1 c2;have kP:=grownCap_ge w (k+n) k e;have kI:=Pv (e:=e) (z:=zv) (cap:=grownCap w (k+n) k e) hh (kW g1 lR) (need:=k+n) (sz:=ti.size) (by rw [yW,g2,c3,dT.2.1,we]) Ju (aK cs&&aK new)
       (fun h=>by simp only [yf] at h;exact Dl h.1 h.2) kP
      obtain ⟨k1,k2⟩:=Pw hh (hp0:=hp) (p:=⟨w.heap.size,0,grownCap w (k+n) k e*ti.size,ti.size⟩) (fun _ _ h=>h) rfl kI;exact GZ (aQ _ _ (by rw [ex];exact hr)) k1 (by simp only [ai];exact ⟨_,_,dW,rfl,kP,by simp⟩) (jJ pZ) k2
  | aE id o0 k=>
   rw [hx] at hv rx;simp only at hv;simp only [ai] at rx;obtain ⟨p,c,hm,ex,h1,h2⟩:=rx
   split at hv
   case h_2=>cases hv
   rename_i pu NT zz cs hg
   cases hc:(yt zz ti.size&&(yB (k+n) room&&(yB ((k+n)*ti.bytes) room&&(yB (o0+k*ti.size) cs.length&&(yI 0 ti.size&&bL new))))) with
   | false=>rw [hc] at hv;cases hv
   | true=>
    rw [hc] at hv;simp only [yy,yc,ym] at hv;obtain ⟨rfl,rfl,rfl⟩:=hv;simp only [yf] at hc;have c0:=yk hc.1;have c1:=yr hc.2.1;have c2:=yr hc.2.2.1;have c3:=yr hc.2.2.2.1;have c4:=hc.2.2.2.2.2;simp only [room] at c1 c2;obtain ⟨p',arr,t',g1,g2,g3,g4,g5,g6,g7,g8,g9,g10⟩:=hh.obj id _ _ hg hm;rw [hm] at g1;injection g1 with g1
    subst g1;subst c0;rw [g3] at h2;have NW:bR O.ah m S w (slice o0 (k*ti.size) cs) p.b (p.o+o0):=Bo _ _ _ _ (pG _ _ _ _ g7);obtain ⟨mj,f1,f2,f3⟩:=rD _ _ _ NW;have adb:(slice o0 (k*ti.size) cs).length=k*ti.size:=by simp only [slice,yQ,xY];omega
    have iX:(pu&&aK new)=true->aK (slice o0 (k*ti.size) cs++new)=true:=fun h=>by
     simp only [yf] at h;exact Dl (Bl _ (zy _ _ (g8 h.1))) h.2
    by_cases Ea:k+n<=c
    ·have fw:=KO lR c4;have Cb:p.o+o0+k*ti.size+news.length<=arr.size:=by
      rw [dT.2.1]
      have:(k+n)*ti.size<=c*ti.size:=yU _ Ea
      rw [we] at this;omega
     have hr:=agi (P:=O.P) (ty:=b') (w:=w) AT hu sZ g2 dT fw Ea Cb;have ho:∀m',dn m m'->m' ct=some ⟨p.b,p.o+o0,c*ti.size,ti.size⟩->
       fg O m' S (w.setRow p.b (arr.toList.take (p.o+o0+k*ti.size)++news++arr.toList.drop (p.o+o0+k*ti.size+news.length)).toArray) ct
        (.cells true (pu&&aK new) false ti.size (slice o0 (k*ti.size) cs++new)):=by
      intro m' hle hi;have aR:fE S w (w.setRow p.b (arr.toList.take (p.o+o0+k*ti.size)++news++arr.toList.drop (p.o+o0+k*ti.size+news.length)).toArray):=fun b hb=>setRow_other w p.b b _ (fun e=>g9 rfl (e▸hb))
      refine ⟨_,_,t',hi,setRow_heap w p.b arr _ t' _ g2,rfl,?_,?_,by simp,?_,iX,fun _=>g9 rfl,by simp⟩
      ·show (slice o0 (k*ti.size) cs++new).length<=c*ti.size
       rw [yW,adb,<-NV,dT.2.1,<-we];exact yU _ Ea
      ·show p.o+o0+c*ti.size<=_
       rw [uC,yW,yW,yQ,xY,vE];omega
      ·refine Dz _ (mj++news) _ (kW (gO hle (fun _ h=>h) aR _ _ f1) (gO hle (fun _ h=>h) aR _ _ lR)) (fun j u hj=>?_);show World.cell? _ ⟨p.b,p.o+o0+j,none⟩=some u
       simp only [World.cell?,setRow_heap w p.b arr _ t' _ g2,tx,yC,y8];rw [tq];have e1:(arr.toList.take (p.o+o0+k*ti.size)).length=p.o+o0+k*ti.size:=by rw [yQ,vE];omega
       by_cases TN:j<k*ti.size
       ·rw [xR (by omega)] at hj;rw [xC,xR (by omega),vP (by omega)]
        have:=f3 j u hj
        simpa [World.cell?,g2] using this
       ·rw [xF (by omega)] at hj;have hjl:=(List.getElem?_eq_some_iff.1 hj).1;rw [xC,xF (by omega),e1,xR (by omega),show p.o+o0+j-(p.o+o0+k*ti.size)=j-mj.length by omega];exact hj
     obtain ⟨k1,k2⟩:=ahZ (p':=⟨p.b,p.o+o0,c*ti.size,ti.size⟩) hh hg hm (g9 rfl) (Pd w p.b _) (fun r hr=>by rw [g2] at hr;cases hr) rfl ho;exact GZ (aQ _ _ (by rw [ex];exact hr)) k1 (by simp only [ai];exact ⟨_,c,dW,rfl,Ea,by simp⟩) (jJ pZ) k2
    ·have TU:Src O.P w ti.size k mj (.slice (some ⟨p.b,p.o+o0,none⟩) k c):=GN (by omega) (fun j u hj=>by rw [nM];exact f3 j u hj)
     have hr:=O1 (P:=O.P) (ty:=b') (w:=w) AT hu sZ TS rfl TU dT (by omega) c1 c2;have kP:=grownCap_ge w (k+n) c e;have kI:=Pv (e:=e) (z:=zv) (cap:=grownCap w (k+n) c e) hh (kW f1 lR) (need:=k+n) (sz:=ti.size) (by rw [yW,f2,adb,dT.2.1,we]) Ju (pu&&aK new) iX kP;obtain ⟨k1,k2⟩:=Pw hh (hp0:=ep hp id) (p:=⟨w.heap.size,0,grownCap w (k+n) c e*ti.size,ti.size⟩) (fun i q h=>by
      rw [GM] at h;by_cases hi:id=i
      ·simp [hi] at h
      ·simpa only [hi,y8] using h) rfl kI
     exact GZ (aQ _ _ (by rw [ex];exact hr)) k1 (by simp only [ai];exact ⟨_,_,dW,rfl,kP,by simp⟩) (jJ pZ) k2
  | _=>rw [hx] at hv;simp at hv
end
end
section
open Go
section
variable {O:bq} {H:Hint} {m:Mp} {S:Nat->Prop} {w:yg} {tm:Env} {a:Act} {hp:Hp} {ct:Nat}
def agu {n:Nat} {cs:List AV} (h:aK cs=true):aK (cs.take n)=true:=Bl n h
def VY:∀(n:Nat) {cs:List AV},bL cs=true->bL (cs.take n)=true
 | 0,_,_=>by simp [bL]
 | n+1,[],_=>by simp [bL]
 | n+1,c::cs,h=>by
  simp only [List.take_succ_cons,bL,yf] at h ⊢;exact ⟨h.1,VY n h.2⟩
def ajQ {o:y5} {b':yx} {t u e:yx} {sz:Nat} {x y:xu} {v:AV} {an:Hp} {a7:Nat} (hH:fp O H) (ht:cf O m S w tm a.tmps) (hh:aV O m S w hp ct)
  (fW:(execOp a.eval o).run O.P w=((do pure (.value (<-Builtin.copy_ #[t,u] b' #[a.eval x,a.eval y])):Sem yah)).run O.P w)
  (AT:O.P.underlying t=some (.slice e)) (hs:cL O.P e=some sz)
  (hv:cW tm hp ct (.oh sz (aS H x) (aS H y))=some (v,an,a7)):rZ O m S w a hp ct o v an a7:=by
 simp only [cW] at hv
 cases Cc:oR hp sz (az tm (aS H y)) with
 | none=>simp [Cc] at hv
 | some q=>
  obtain ⟨n,new⟩:=q;simp only [Cc] at hv;obtain ⟨news,lR,dT⟩:=WI hh (cD hH ht y) Cc;have NV:=iw _ _ lR;have rx:=cD hH ht x;cases hx:az tm (aS H x)<;>rw [hx] at hv rx<;>simp only [reduceCtorEq] at hv
  rename_i id o0 k;simp only [ai] at rx;obtain ⟨p,c,hm,ex,h1,h2⟩:=rx
  split at hv
  case h_2=>cases hv
  rename_i pu NT zz cs hg
  cases hc:(yt zz sz&&(yB (o0+k*sz) cs.length&&bL new)) with
  | false=>rw [hc] at hv;cases hv
  | true=>
   rw [hc] at hv;simp only [yy,yc,ym] at hv;obtain ⟨rfl,rfl,rfl⟩:=hv;simp only [yf] at hc;have c0:=yk hc.1;have c1:=yr hc.2.1;subst c0;obtain ⟨p',arr,t',g1,g2,g3,g4,g5,g6,g7,g8,g9,g10⟩:=hh.obj id _ _ hg hm;rw [hm] at g1;injection g1 with g1
   subst g1;have ade:min n k*zz<=k*zz:=yU _ (Nat.min_le_right _ _);have ays:min n k*zz<=n*zz:=yU _ (yam _ _);have rt:=Dv (min n k*zz) lR;have om:(news.take (min n k*zz)).length=min n k*zz:=by rw [yQ,dT.2.1];omega
   have ayB:(new.take (min n k*zz)).length=min n k*zz:=by rw [yQ,<-NV,dT.2.1];omega
   have fw:=KO rt (VY _ hc.2.2);have hf:=dT.2.2 w rfl (min n k) (yam _ _);have aR:=run_storeCells_at O.P p.b (p.o+o0) t' (news.take (min n k*zz)) 0 arr w g2 (by rw [om];omega) fw;simp only [yV] at aR;have nd:fg O m S (w.setRow p.b (arr.toList.take (p.o+o0)++news.take (min n k*zz)++arr.toList.drop (p.o+o0+(news.take (min n k*zz)).length)).toArray) id
     (.cells true (pu&&aK new) NT zz (over o0 (new.take (min n k*zz)) cs)):=by
    refine ⟨p,_,t',hm,setRow_heap w p.b arr _ t' _ g2,g3,by rw [K2 (by omega)];exact g4,?_,fun h=>by rw [K2 (by omega)];exact g6 h,?_,?_,fun _=>g9 rfl,by simp⟩
    ·rw [uC,yW,yW,yQ,xY,vE,om];omega
    ·exact Yd g2 g7 rt (by omega) (by omega) dn.refl (fun _ h=>h) (fun b hb=>setRow_other w p.b b _ (fun e=>g9 rfl (e▸hb))) (setRow_heap w p.b arr _ t' _ g2)
    ·intro h;simp only [yf] at h;exact WG (g8 h.1) (agu h.2)
   obtain ⟨e1,e2⟩:=GY hh hg hm (g9 rfl) (Pd w p.b _) nd (fun r hr=>by rw [g2] at hr;cases hr)
   refine GZ (u:=goInt ((min n k:Nat):Int)) (m':=m) (S':=S) ?_ e1 (by simp [ai,goInt]) dn.refl e2;rw [fW,ex];simp [Builtin.copy_,run_underlying AT,dT.1 w,mB hs,show Nat.min n k=min n k from rfl,hf,aR]
def al5 {o:y5} {k:Nat} {v:AV} {an:Hp} {a7:Nat} (hH:fp O H) (ht:cf O m S w tm a.tmps) (hh:aV O m S w hp ct)
  (hv:cW tm hp ct (bl O.P H k o)=some (v,an,a7)):rZ O m S w a hp ct o v an a7:=by
 have lI:∀{r:AV×Hp×Nat},cW tm hp ct bad=some r->False:=fun h=>by simp [bad,cW] at h
 cases ho:o.op with
 | call c=>
  obtain ⟨callee,args,ts⟩:=c;simp only [bl,ho] at hv
  split at hv
  ·cases TL:H.mode k<;>simp [TL,cW] at hv
  ·rename_i _ b
   split at hv
   ·rename_i x y t u gE ol;obtain ⟨al⟩:=args;obtain ⟨tl⟩:=ts;simp only at gE ol;subst gE;subst ol;obtain ⟨cs,fW⟩:=Gz (O:=O) (w:=w) (a:=a) ho;have Rk:(execOp a.eval o).run O.P w=((do pure (.value (<-Builtin.append_ #[t,u] o.type #[a.eval x,a.eval y])):Sem yah)).run O.P w:=by
     rw [fW];simp [builtin]
    have key:∀{z:AV} {sz cG:Nat} {e:yx},O.P.underlying t=some (.slice e)->((∃e',O.P.underlying u=some (.slice e'))\/O.P.underlying u=some .string)->cL O.P e=some sz->AO O.P e=some cG->mg O.P e=some z->
      cW tm hp ct (bif yt (cellsOf z).length sz then .dl sz cG (aS H x) (aS H y) else bad)=some (v,an,a7)->rZ O m S w a hp ct o v an a7:=by
     intro z sz cG e h1 h2 h3 h4 h5 h
     cases hb:yt (cellsOf z).length sz with
     | false=>rw [hb] at h;exact (lI h).elim
     | true=>
      rw [hb] at h;exact ajP hH ht hh Rk h1 h2 h3 h4 h5 (yk hb) h
    split at hv
    ·rename_i e e' h1 h2
     split at hv
     ·rename_i sz cG z h3 h4 h5
      exact key h1 (.inl ⟨_,h2⟩) h3 h4 h5 hv
     ·exact (lI hv).elim
    ·rename_i e h1 h2
     split at hv
     ·rename_i sz cG z h3 h4 h5
      exact key h1 (.inr h2) h3 h4 h5 hv
     ·exact (lI hv).elim
    ·exact (lI hv).elim
   ·repeat' split at hv
    all_goals simp [cW,bad] at hv
   ·rename_i x y t u gE ol;obtain ⟨al⟩:=args;obtain ⟨tl⟩:=ts;simp only at gE ol;subst gE;subst ol;obtain ⟨cs,fW⟩:=Gz (O:=O) (w:=w) (a:=a) ho;have Rk:(execOp a.eval o).run O.P w=((do pure (.value (<-Builtin.copy_ #[t,u] o.type #[a.eval x,a.eval y])):Sem yah)).run O.P w:=by
     rw [fW];simp [builtin]
    split at hv
    ·rename_i e h1
     split at hv
     ·rename_i sz h3;exact ajQ hH ht hh Rk h1 h3 hv
     ·exact (lI hv).elim
    ·exact (lI hv).elim
   ·simp [cW] at hv
   ·simp [cW] at hv
   ·exact (lI hv).elim
  ·exact (lI hv).elim
 | store t x y=>
  simp only [bl,ho] at hv
  split at hv
  ·rename_i s hs;exact al1 hH ht hh ho hs hv
  ·exact (lI hv).elim
 | mapUpdate t x k y=>
  simp only [bl,ho] at hv
  split at hv
  ·rename_i kt e hu
   split at hv
   ·rename_i kk qO;exact Ye hH ht hh (.inl ho) hu qO hv
   ·exact (lI hv).elim
  ·exact (lI hv).elim
 | insert t x k y=>
  simp only [bl,ho] at hv
  split at hv
  ·rename_i kt e hu
   split at hv
   ·rename_i kk qO;exact Ye hH ht hh (.inr ho) hu qO hv
   ·exact (lI hv).elim
  ·exact (lI hv).elim
 | next x b=>
  cases b with
  | false=>simp only [bl,ho] at hv;exact (lI hv).elim
  | true=>exact ajO hH ht hh ho (by simpa only [bl,ho] using hv)
 | binOp op t x y ty=>
  cases op<;>simp only [bl,ho,pQ,rL] at hv
  case eql=>
        repeat' split at hv
        all_goals first
         | (simp [cW,bad] at hv;done)
         | (cases hb:(O.P.stoodInHeld t||O.P.eqGuardType O.P.depth t)<;>rw [hb] at hv<;>simp [cW,bad] at hv)
  case neq=>
        repeat' split at hv
        all_goals first
         | (simp [cW,bad] at hv;done)
         | (cases hb:(O.P.stoodInHeld t||O.P.eqGuardType O.P.depth t)<;>rw [hb] at hv<;>simp [cW,bad] at hv)
  all_goals simp [cW] at hv
 | buildSlice t n parts=>
  simp only [bl,ho] at hv
  repeat' split at hv
  all_goals first
   | (simp [cW,bad] at hv;done)
   | (
     revert hv;generalize yB _ _=bb;intro hv;cases bb<;>simp [cW,bad] at hv
     try (split at hv<;>simp [cW,bad] at hv))
 | makeMap t r=>
  cases r<;>simp only [bl,ho] at hv
  ·repeat' split at hv
   all_goals simp [cW,bad] at hv
  ·exact (lI hv).elim
 | _=>
  simp only [bl,ho] at hv
  (repeat' split at hv)
  all_goals first
   | contradiction
   | (simp [cW,bad] at hv;done)
end
end
section
section
variable {hp H:Hp} {tm cu:Env}
def Y8 (hl:da hp H) {id:Nat} {rw pu ex:Bool} {sz:Nat} {cs:List AV} (h:aw hp id=some (.cells rw pu ex sz cs)):∃eH,aw H id=some (.cells eH pu ex sz cs):=by
 obtain ⟨o',h1,eH,rfl,_⟩:=hl id _ h;exact ⟨eH,h1⟩
def Y9 (hl:da hp H) {id:Nat} {rw:Bool} {ks vs:List AV} (h:aw hp id=some (.mp rw ks vs)):∃eH,aw H id=some (.mp eH ks vs):=by
 obtain ⟨o',h1,eH,rfl,_⟩:=hl id _ h;exact ⟨eH,h1⟩
def Za (hl:da hp H) {sz:Nat} {ag:Bool} {x v:AV} (h:gG hp sz ag x=some v):gG H sz ag x=some v:=by
 cases x<;>simp only [gG,reduceCtorEq] at h ⊢
 ·rename_i id o
  cases hg:aw hp id with
  | none=>simp [hg] at h
  | some ob=>
   cases ob<;>simp only [hg,reduceCtorEq] at h
   obtain ⟨r,h1⟩:=Y8 hl hg;simp only [h1];exact h
 ·exact h
def ajR (hl:da hp H) {k x:AV} {v:Option AV} (h:z7 hp k x=some v):z7 H k x=some v:=by
 cases x<;>simp only [z7,reduceCtorEq] at h ⊢
 ·exact h
 ·rename_i id
  cases hg:aw hp id with
  | none=>simp [hg] at h
  | some ob=>
   cases ob<;>simp only [hg,reduceCtorEq] at h
   obtain ⟨r,h1⟩:=Y9 hl hg;simp only [h1];exact h
 ·exact h
def ajS (hl:da hp H) {k:Nat} {x v:AV} (h:gV hp k x=some v):gV H k x=some v:=by
 unfold gV at h ⊢
 split at h
 all_goals first
  | exact h
  | cases h
  | skip
 rename_i id
 cases hg:aw hp id with
 | none=>simp [hg] at h
 | some ob=>
  cases ob<;>simp only [hg,reduceCtorEq] at h
  obtain ⟨r,h1⟩:=Y9 hl hg;simp only [h1];exact h
def ajT (hl:da hp H) {k:Cut} {x v:AV} {lo hi:Option X} (h:fe hp k x tm lo hi=some v):fe H k x tm lo hi=some v:=by
 unfold fe at h ⊢
 split at h
 all_goals first
  | exact h
  | cases h
  | skip
 rename_i sz id o n
 cases hg:aw hp id with
 | none=>simp [hg] at h
 | some ob=>
  cases ob<;>simp only [hg,reduceCtorEq] at h
  obtain ⟨r,h1⟩:=Y8 hl hg;simp only [h1];exact h
def ah0 (hl:da hp H) {o:Op} {v:AV} (h:bw tm hp o=some v):bw tm H o=some v:=by
 cases o<;>simp only [bw,reduceCtorEq] at h ⊢<;>first
  | exact h
  | exact Za hl h
  | exact ajS hl h
  | exact ajT hl h
  | skip
 rename_i kk zero ok m k
 cases hk:rK kk (az tm k) with
 | false=>rw [hk] at h;cases h
 | true=>
  rw [hk] at h;simp only [yy] at h ⊢
  cases hr:z7 hp (az tm k) (az tm m) with
  | none=>simp [hr] at h
  | some r=>rw [ajR hl hr];simpa only [hr] using h
def ah1 {o:Op} (hk:bB o=0) (hp H:Hp):bw tm hp o=bw tm H o:=by
 cases o with
 | dO k x lo hi=>
  cases k with
  | str=>simp only [bw,fe];cases az tm x<;>rfl
  | sl sz=>simp [bB] at hk
  | ar n sz=>simp [bB] at hk
 | len k x=>
  match k,hk with
  | 0,_=>simp only [bw];unfold gV;split<;>simp_all
  | 1,_=>simp only [bw];unfold gV;split<;>simp_all
  | k+2,hk=>simp [bB] at hk
 | call md f xs=>cases md<;>simp [bB] at hk
 | _=>first
  | rfl
  | simp [bB] at hk
end
section
variable {tm cu:Env}
def dI {x:X} (h:∀t,t∈jd x->aj cu t=aj tm t):az cu x=az tm x:=by
 cases x with
 | t i=>exact h i (by simp [jd])
 | c v=>rfl
def Bp:∀{xs:List X},(∀t,t∈rR xs->aj cu t=aj tm t)->di cu xs=di tm xs
 | [],_=>rfl
 | x::r,h=>by
  simp only [di]
  rw [dI (x:=x) (fun t ht=>h t (by simp [rR,ht])),Bp (fun t ht=>h t (by simp [rR,ht]))]
def Px:∀{ps:List (Nat×Nat×X)} {z:List AV},(∀t,t∈HT ps->aj cu t=aj tm t)->fill cu z ps=fill tm z ps
 | [],_,_=>rfl
 | (o,s,x)::r,z,h=>by
  simp only [fill]
  rw [dI (x:=x) (fun t ht=>h t (by simp [HT,ht]))]
  rw [Px (ps:=r) (fun t ht=>h t (by simp [HT,ht]))]
def WJ {d:Nat} {x:Option X} (h:∀t,t∈HS x->aj cu t=aj tm t):cI cu d x=cI tm d x:=by
 cases x with
 | none=>rfl
 | some x=>simp only [cI];rw [dI h]
def agX {hp:Hp} {k:Cut} {x:AV} {lo hi:Option X} (h1:∀t,t∈HS lo->aj cu t=aj tm t) (h2:∀t,t∈HS hi->aj cu t=aj tm t):
  fe hp k x cu lo hi=fe hp k x tm lo hi:=by
 unfold fe;simp only [WJ h1,WJ h2]
def agv {hp:Hp} {o:Op} (h:∀t,t∈jL o->aj cu t=aj tm t):bw cu hp o=bw tm hp o:=by
 cases o<;>simp only [jL,wD] at h<;>simp only [bw]
 case pick c a b=>rw [dI (x:=c) fun t ht=>h t (.inl ht),dI (x:=a) fun t ht=>h t (.inr (.inl ht)),dI (x:=b) fun t ht=>h t (.inr (.inr ht))]
 case dc z ps=>rw [Px h]
 case oc f a b=>rw [Bp (xs:=a) fun t ht=>h t (.inl ht),Bp (xs:=b) fun t ht=>h t (.inr ht)]
 case dO k x lo hi=>rw [dI (x:=x) fun t ht=>h t (.inl ht),agX (fun t ht=>h t (.inr (.inl ht))) (fun t ht=>h t (.inr (.inr ht)))]
 case mn xs=>rw [Bp h]
 case mx xs=>rw [Bp h]
 case bin op x y=>rw [dI (x:=x) fun t ht=>h t (.inl ht),dI (x:=y) fun t ht=>h t (.inr ht)]
 case eq n k x y=>rw [dI (x:=x) fun t ht=>h t (.inl ht),dI (x:=y) fun t ht=>h t (.inr ht)]
 case a8 s x y=>rw [dI (x:=x) fun t ht=>h t (.inl ht),dI (x:=y) fun t ht=>h t (.inr ht)]
 case sP l s x y=>rw [dI (x:=x) fun t ht=>h t (.inl ht),dI (x:=y) fun t ht=>h t (.inr ht)]
 case j0 x y=>rw [dI (x:=x) fun t ht=>h t (.inl ht),dI (x:=y) fun t ht=>h t (.inr ht)]
 case sQ l s g x y=>rw [dI (x:=x) fun t ht=>h t (.inl ht),dI (x:=y) fun t ht=>h t (.inr ht)]
 case NP kk z ok x y=>rw [dI (x:=x) fun t ht=>h t (.inl ht),dI (x:=y) fun t ht=>h t (.inr ht)]
 all_goals first
  | rfl
  | (rename_i x;rw [dI (x:=x) h])
def GA {hp an:Hp} {ct:Nat} {o:Op} (h:∀t,t∈jL o->aj cu t=aj tm t):cQ cu an ct o=cQ tm hp ct o:=by
 cases o<;>simp only [jL,wD] at h<;>simp only [cQ]
 case box s x=>rw [dI (x:=x) h]
 case bH n s z ps=>rw [Px h]
 case fZ s b z x y=>rw [dI (x:=x) fun t ht=>h t (.inl ht),dI (x:=y) fun t ht=>h t (.inr ht)]
 case oe x=>rw [dI (x:=x) h]
def Dm {hp:Hp} {ct:Nat} {o:Op} (h:∀t,t∈jL o->aj cu t=aj tm t):cW cu hp ct o=cW tm hp ct o:=by
 cases o<;>simp only [jL,wD] at h<;>simp only [cW]
 case st s x y=>rw [dI (x:=x) fun t ht=>h t (.inl ht),dI (x:=y) fun t ht=>h t (.inr ht)]
 case od kk c a b=>rw [dI (x:=c) fun t ht=>h t (.inl ht),dI (x:=a) fun t ht=>h t (.inr (.inl ht)),dI (x:=b) fun t ht=>h t (.inr (.inr ht))]
 case og x=>rw [dI (x:=x) h]
 case dl s b x y=>rw [dI (x:=x) fun t ht=>h t (.inl ht),dI (x:=y) fun t ht=>h t (.inr ht)]
 case oh s x y=>rw [dI (x:=x) fun t ht=>h t (.inl ht),dI (x:=y) fun t ht=>h t (.inr ht)]
end
end
section
open Go
structure Calm (w w':yg):Prop where
 os:w'.os=w.os
 tape:w'.tape=w.tape
 output:w'.output=w.output
 size:w.heap.size<=w'.heap.size
 same:∀b,b<w.heap.size->w'.heap[b]? =w.heap[b]?
def Calm.refl {w:yg}:Calm w w:=⟨rfl,rfl,rfl,yv _,fun _ _=>rfl⟩
def z8 (O:bq) (w:yg):Prop:=(∀b,b<O.w0.heap.size->w.heap[b]? =O.w0.heap[b]?)/\O.w0.heap.size<=w.heap.size
def eM:Mp:=fun _=>none
def gW (ah:Nat->Nat) (S:Nat->Prop) (w:yg) (lo:Nat):AV->ye->List Nat->Prop
 | .cp ex sz n cs,u,bs=>∃b o c arr t,bs=[b]/\u= .slice (some ⟨b,o,none⟩) n c/\n<=c/\(ex=true->c=n)/\lo<=b/\¬S b/\w.heap[b]? =some (.cells arr t (0,0))/\cs.length=n*sz/\
   o+c*sz<=arr.size/\bR ah eM S w cs b o/\aK cs=true
 | r,u,bs=>bs=[]/\ai ah eM S w r u/\aX r=true
def jW (ah:Nat->Nat) (S:Nat->Prop) (w:yg) (lo:Nat):List AV->List ye->List Nat->Prop
 | [],us,bs=>us=[]/\bs=[]
 | v::r,us,bs=>∃u t b1 b2,us=u::t/\bs=b1++b2/\gW ah S w lo v u b1/\jW ah S w lo r t b2
def mM (ah:Nat->Nat) (S:Nat->Prop) (w:yg) (lo:Nat) (r:AV) (u:ye):Prop:=
 match r with
 | .aq vs=>∃(us:Array ye) (bs:List Nat),u= .tuple us/\jW ah S w lo vs us.toList bs/\bs.Nodup
 | r=>∃bs,gW ah S w lo r u bs
def zM (P:y9) (f:FuncId) (args:Array ye) (w:yg) (R:yan->yg->Prop):Prop:=
 ((callFunc f args).run P w= .ok (.enter f args) w/\CallsIn Fence.wide 0 P f args w R)\/∃u w',(callFunc f args).run P w= .ok (.value u) w'/\R (.returned u) w'
def Yf (O:bq) (w:yg) (S:Nat->Prop) (r:AV) (e:yan) (w':yg):Prop:=
 ∃u S',e= .returned u/\Calm w w'/\(∀b,S b->S' b)/\(∀b,S' b->S b\/w.heap.size<=b)/\(∀b,S' b->b<w'.heap.size)/\mM O.ah S' w' w.heap.size r u
def ez (O:bq) (n:Nat) (ak:List AV) (r:AV):Prop:=
 ∀(w:yg) (S:Nat->Prop) (args:Array ye),z8 O w->(∀b,S b->b<w.heap.size)->ap O.ah eM S w ak args.toList->aK ak=true->
  zM O.P (O.ah n) args w (Yf O w S r)
def rF (O:bq) (m:Mp) (S:Nat->Prop) (w:yg) (hp:Hp) (ct:Nat) (v:AV) (an:Hp) (a7:Nat) (e:yan) (w':yg):Prop:=
 ∃u m' S',e= .returned u/\aV O m' S' w' an a7/\ct<=a7/\ai O.ah m' S' w' v u/\cm m S w hp m' S' w' an ct
def Aa (O:bq) (n:Nat) (hp:Hp) (ct:Nat) (ak:List AV) (v:AV) (an:Hp) (a7:Nat):Prop:=
 ∀(m:Mp) (S:Nat->Prop) (w:yg) (args:Array ye),aV O m S w hp ct->ap O.ah m S w ak args.toList->zM O.P (O.ah n) args w (rF O m S w hp ct v an a7)
section
variable {ah:Nat->Nat} {m m':Mp} {S S':Nat->Prop} {w w':yg}
mutual
def oN (hS:∀b,S b->S' b) (hw:fE S w w'):∀(v:AV) (u:ye),aX v=true->ai ah m S w v u->ai ah m' S' w' v u
 | .int _ _,_,_,h | .bool _,_,_,h | .dh _ _,_,_,h | .str _,_,_,h | .jU,_,_,h | .ab,_,_,h | .ib,_,_,h | .jz,_,_,h | .undef,_,_,h=>by
  simpa only [ai] using h
 | .ptr id o,u,hp,h=>by simp [aX] at hp
 | .aO cs,u,hp,h=>by
  simp only [ai] at h ⊢;obtain ⟨b,o,h1,h2,h3,h4⟩:=h;refine ⟨b,o,h1,h2.imp id (hS b),h3,?_⟩;rcases h2 with rfl | h2
  ·simp only [bR]
  ·exact Pe hS hw cs b o h3 h2 h4
 | .aH ex n cs,u,hp,h=>by
  simp only [ai] at h ⊢;rcases h with ⟨b,o,c,h1,h2,h3,h4,h5,h6⟩ | h
  ·refine .inl ⟨b,o,c,h1,h2,h3,h4.imp id (hS b),h5,?_⟩;rcases h4 with rfl | h4
   ·simp only [bR]
   ·exact Pe hS hw cs b o h5 h4 h6
  ·exact .inr h
 | .cp _ _ _ _,u,hp,h=>by simp [aX] at hp
 | .aE id o n,u,hp,h=>by simp [aX] at hp
 | .fn (.f g) first cap,u,hp,h=>by
  simp only [ai] at h ⊢;simp only [aX,yf] at hp;obtain ⟨fi,ca,h1,h2,h3⟩:=h;exact ⟨fi,ca,h1,rE hS hw first _ hp.1 h2,rE hS hw cap _ hp.2 h3⟩
 | .fn (.y l) _ _,u,hp,h=>by simp [aX] at hp
 | .map id,u,hp,h=>by simp [aX] at hp
 | .jj ks vs,u,hp,h=>by
  simp only [ai] at h ⊢;obtain ⟨b,es,clock,h1,h2,h3,h4,h5,h6,h7⟩:=h;exact ⟨b,es,clock,h1,hS b h2,h3,h4,(hw b h2).trans h5,rE hS hw ks _ h3 h6,rE hS hw vs _ h4 h7⟩
 | .it id,u,hp,h=>by simp [aX] at hp
 | .agg cs,u,hp,h=>by
  simp only [ai] at h ⊢;simp only [aX] at hp;obtain ⟨xs,h1,h2⟩:=h;exact ⟨xs,h1,rE hS hw cs _ hp h2⟩
 | .aq cs,u,hp,h=>by
  simp only [ai] at h ⊢;simp only [aX] at hp;obtain ⟨xs,h1,h2⟩:=h;exact ⟨xs,h1,rE hS hw cs _ hp h2⟩
def rE (hS:∀b,S b->S' b) (hw:fE S w w'):∀(vs:List AV) (us:List ye),aK vs=true->ap ah m S w vs us->ap ah m' S' w' vs us
 | [],us,_,h=>by simpa only [ap] using h
 | v::r,us,hp,h=>by
  simp only [ap] at h ⊢;simp only [aK,yf] at hp;obtain ⟨u,t,h1,h2,h3⟩:=h;exact ⟨u,t,h1,oN hS hw v u hp.1 h2,rE hS hw r t hp.2 h3⟩
def Pe (hS:∀b,S b->S' b) (hw:fE S w w'):∀(cs:List AV) (b o:Nat),aK cs=true->S b->bR ah m S w cs b o->bR ah m' S' w' cs b o
 | [],_,_,_,_,_=>by simp only [bR]
 | c::cs,b,o,hp,hb,h=>by
  simp only [bR] at h ⊢;simp only [aK,yf] at hp;obtain ⟨⟨u,h1,h2⟩,h3⟩:=h;exact ⟨⟨u,(Kt (hw b hb)).trans h1,oN hS hw c u hp.1 h2⟩,Pe hS hw cs b (o+1) hp.2 hb h3⟩
end
def Bm (hS:∀b,S b->S' b) (hw:fE S w w'):∀(cs:List AV) (b o:Nat),aK cs=true->w'.heap[b]? =w.heap[b]? ->bR ah m S w cs b o->bR ah m' S' w' cs b o
 | [],_,_,_,_,_=>by simp only [bR]
 | c::cs,b,o,hp,hb,h=>by
  simp only [aK,yf] at hp;obtain ⟨⟨u,h1,h2⟩,h3⟩:=h;exact ⟨⟨u,(Kt hb).trans h1,oN hS hw c u hp.1 h2⟩,Bm hS hw cs b (o+1) hp.2 hb h3⟩
end
section
variable {O:bq} {m:Mp} {S S':Nat->Prop} {w w':yg} {hp:Hp} {ct:Nat}
def ah2 (hh:aV O m S w hp ct) (hw:Calm w w'):fE S w w':=fun b hb=>hw.same b (hh.slt b hb)
def Dw (hh:aV O m S w hp ct) (hw:Calm w w') (hS:∀b,S b->S' b) (hn:∀b,S' b->S b\/w.heap.size<=b) (hl:∀b,S' b->b<w'.heap.size):aV O m S' w' hp ct where
 obj id o p ho hm:=pI (fun _ _ h=>h) hS (ah2 hh hw) (fun q hq=>hw.same _ (hh.blt id q hq)) (fun q hq hs=>(hn _ hs).resolve_right (by have:=hh.blt id q hq;omega)) (hh.obj id o p ho hm)
 lt:=hh.lt
 inj:=hh.inj
 slt:=hl
 blt id p h:=yN (hh.blt id p h) hw.size
 low:=hh.low
 kH b hb:=(hw.same b (yN hb hh.fF)).trans (hh.kH b hb)
 fF:=Nat.le_trans hh.fF hw.size
 a6:=hh.a6
def Bs {base:Nat} (hh:aV O m S w hp ct) (hw:Calm w w') (hS:∀b,S b->S' b) (hn:∀b,S' b->S b\/w.heap.size<=b):cm m S w hp m S' w' hp base where
 os:=hw.os
 tape:=hw.tape
 output:=hw.output
 size:=hw.size
 same b hb _:=hw.same b hb
 sub:=hS
 still b hb:=hw.same b (hh.slt b hb)
 new b hb:=(hn b hb).imp id .inr
 own b hb:= .inl hb
 old _ _ _ h:=h
 loops b r hb:=⟨r,(hw.same b (xp.1 hb).1).trans hb⟩
def ajU {i:Nat} (hh:aV O m S w hp ct) (hi:m i=none) (EW:i<ct) {p:Pl} (hb:p.b<w.heap.size) (bi:O.w0.heap.size<=p.b) (EX:¬S p.b) (nf:∀j q,m j=some q->q.b≠p.b)
  (hf:∀o,aw hp i=some o->(fg O (fh m i p) S w i o/\¬iO o)\/(iO o/\fg O (fh m i p) (fun b=>S b\/b=p.b) w i o)):
  ∃S',aV O (fh m i p) S' w hp ct/\(∀b,S b->S' b)/\∀b,S' b->S b\/b=p.b:=by
 have aR:fE S w w:=fun _ _=>rfl
 have gen:∀S':Nat->Prop,(∀b,S b->S' b)->(∀b,S' b->S b\/b=p.b)->(∀o,aw hp i=some o->fg O (fh m i p) S' w i o)->aV O (fh m i p) S' w hp ct:=by
  intro S' h1 h2 h3;refine ⟨?_,?_,?_,?_,?_,?_,hh.kH,hh.fF,hh.a6⟩
  ·intro id o q ho hm;by_cases hc:id=i
   ·grind
   ·rw [dV hc] at hm;refine pI (jJ hi) h1 aR (fun _ _=>rfl) (fun q' bV hs=>?_) (hh.obj id o q ho hm)
    grind
  ·intro id q hm;by_cases hc:id=i
   ·grind
   ·rw [dV hc] at hm;exact hh.lt id q hm
  ·intro a b oa ob pa pb ha cO CH ss e;by_cases ca:a=i
   ·by_cases cb:b=i
    ·grind
    ·subst ca;rw [dW] at CH;rw [dV cb] at ss
     grind
   ·rw [dV ca] at CH;by_cases cb:b=i
    ·subst cb;rw [dW] at ss
     grind
    ·rw [dV cb] at ss;exact hh.inj a b oa ob pa pb ha cO CH ss e
  ·intro b hs;rcases h2 b hs with h | h
   ·exact hh.slt b h
   ·grind
  ·intro id q hm;by_cases hc:id=i
   ·subst hc;rw [dW] at hm
    grind
   ·rw [dV hc] at hm;exact hh.blt id q hm
  ·intro id q hm;by_cases hc:id=i
   ·subst hc;rw [dW] at hm
    grind
   ·rw [dV hc] at hm;exact hh.low id q hm
 cases ho:aw hp i with
 | none=>exact ⟨S,gen S (fun _ h=>h) (fun _ h=> .inl h) (fun o h=>by rw [ho] at h;cases h),fun _ h=>h,fun _ h=> .inl h⟩
 | some o=>
  rcases hf o ho with ⟨h1,_⟩ | ⟨_,h1⟩
  ·exact ⟨S,gen S (fun _ h=>h) (fun _ h=> .inl h) (fun o' h=>by rw [ho] at h;injection h with h;subst h;exact h1),fun _ h=>h,fun _ h=> .inl h⟩
  ·exact ⟨_,gen (fun b=>S b\/b=p.b) (fun _ h=> .inl h) (fun _ h=>h) (fun o' h=>by rw [ho] at h;injection h with h;subst h;exact h1),fun _ h=> .inl h,fun _ h=>h⟩
def Xs {ah:Nat->Nat} {lo:Nat} {r:AV} {u:ye} {bs:List Nat} (h:gW ah S w lo r u bs) (m:Mp) (hS:∀b,S b->S' b) (hbs:∀b,b∈bs->S' b):ai ah m S' w (bT r) u:=by
 have aR:fE S w w:=fun _ _=>rfl
 cases r with
 | cp ex sz n cs=>
  obtain ⟨b,o,c,arr,t,rfl,rfl,h1,h2,h3,h4,h5,h6,h7,h8,h9⟩:=h;exact .inl ⟨b,o,c,rfl,h1,h2,.inr (hbs b (by simp)),h9,Bm hS aR cs b o h9 rfl h8⟩
 | _=>simp only [gW] at h;exact oN hS aR _ _ h.2.2 h.2.1
def Xt {ah:Nat->Nat} {lo:Nat} (m:Mp) (hS:∀b,S b->S' b):∀{vs:List AV} {us:List ye} {bs:List Nat},jW ah S w lo vs us bs->(∀b,b∈bs->S' b)->ap ah m S' w (B1 vs) us
 | [],us,bs,h,_=>by simp only [jW] at h;exact h.1
 | v::r,us,bs,h,hb=>by
  obtain ⟨u,t,b1,b2,rfl,rfl,h1,h2⟩:=h;exact ⟨u,t,rfl,Xs h1 m hS (fun b cO=>hb b (by simp [cO])),Xt m hS h2 (fun b cO=>hb b (by simp [cO]))⟩
def Qg {ah:Nat->Nat} {lo:Nat} {r:AV} {u:ye} {bs:List Nat} (h:gW ah S w lo r u bs):∀b,b∈bs->lo<=b/\b<w.heap.size:=by
 intro b hb
 cases r with
 | cp ex sz n cs=>
  simp only [gW] at h
  grind
 | _=>simp only [gW] at h;rw [h.1] at hb;cases hb
def Qh {ah:Nat->Nat} {lo:Nat}:∀{vs:List AV} {us:List ye} {bs:List Nat},jW ah S w lo vs us bs->∀b,b∈bs->lo<=b/\b<w.heap.size
 | [],us,bs,h,b,hb=>by simp only [jW] at h;rw [h.2] at hb;cases hb
 | v::r,us,bs,h,b,hb=>by
  obtain ⟨u,t,b1,b2,rfl,rfl,h1,h2⟩:=h;rcases wD.1 hb with hb | hb
  ·exact Qg h1 b hb
  ·exact Qh h2 b hb
def Xu {ah:Nat->Nat} {lo:Nat} {r:AV} {u:ye} (h:mM ah S w lo r u) (m:Mp):∃S',(∀b,S b->S' b)/\(∀b,S' b->S b\/(lo<=b/\b<w.heap.size))/\ai ah m S' w (shut r) u:=by
 have one:∀(r:AV) (bs:List Nat),shut r=bT r->gW ah S w lo r u bs->∃S',(∀b,S b->S' b)/\(∀b,S' b->S b\/(lo<=b/\b<w.heap.size))/\ai ah m S' w (shut r) u:=by
  intro r bs hs h;refine ⟨fun b=>S b\/b∈bs,fun _ h=> .inl h,fun b hb=>hb.imp (fun x=>x) (fun hb=>Qg h b hb),?_⟩;rw [hs];exact Xs h m (fun _ h=> .inl h) (fun _ h=> .inr h)
 cases r with
 | aq vs=>
  obtain ⟨us,bs,rfl,h1,h2⟩:=h;refine ⟨fun b=>S b\/b∈bs,fun _ h=> .inl h,fun b hb=>hb.imp (fun x=>x) (fun hb=>Qh h1 b hb),?_⟩;exact ⟨us,rfl,Xt m (fun _ h=> .inl h) h1 (fun _ h=> .inr h)⟩
 | _=>
  obtain ⟨bs,h⟩:=h;exact one _ bs rfl h
end
end
section
open Go
section
variable {O:bq} {m:Mp} {S:Nat->Prop} {w:yg} {H:Hp} {cH:Nat}
def Lt {hp:Hp} {ct:Nat} {r:AV}:ct<=(eX hp ct r).2.2:=by
 cases r<;>simp only [eX]<;>omega
def Lu:∀{vs:List AV} {hp:Hp} {ct:Nat},ct<=(jk hp ct vs).2.2
 | [],hp,ct=>by simp [jk]
 | v::r,hp,ct=>by
  simp only [jk];have h1:=Lt (hp:=hp) (ct:=ct) (r:=v);have h2:=Lu (vs:=r) (hp:=(eX hp ct v).2.1) (ct:=(eX hp ct v).2.2);omega
def Qi {hp:Hp} {ct:Nat} {r:AV} (hf:∀id o,aw hp id=some o->id<ct):∀id o,aw hp id=some o->aw (eX hp ct r).2.1 id=some o:=by
 intro id o h;cases r<;>simp only [eX]<;>try exact h
 rw [gP,yF (by have:=hf id o h;omega)];exact h
def Zb {hp:Hp} {ct lo:Nat} {r:AV} {u:ye} {bs:List Nat} (hh:aV O m S w H cH) (hl:da (eX hp ct r).2.1 H) (gL:(eX hp ct r).2.2<=cH) (hn:∀id,ct<=id->id<(eX hp ct r).2.2->m id=none)
  (hr:gW O.ah S w lo r u bs) (bi:O.w0.heap.size<=lo) (nf:∀j q,m j=some q->q.b∉bs):
  ∃m' S',aV O m' S' w H cH/\dn m m'/\(∀id p,m' id=some p->m id=some p\/(ct<=id/\id<(eX hp ct r).2.2/\p.b∈bs))/\ai O.ah m' S' w (eX hp ct r).1 u/\(∀b,S b->S' b)/\(∀b,S' b->S b\/b∈bs):=by
 have aR:fE S w w:=fun _ _=>rfl
 cases r with
 | cp ex sz n cs=>
  simp only [eX] at hl gL hn;obtain ⟨b,o,c,arr,t,rfl,rfl,h1,h2,h3,h4,h5,h6,h7,h8,h9⟩:=hr;have bJ:m ct=none:=hn ct (yv _) (Nat.lt_succ_self _);have asx:b<w.heap.size:=(xp.1 h5).1;have nd:fg O (fh m ct ⟨b,o,c*sz,sz⟩) S w ct (.cells true true ex sz cs):=by
   refine ⟨_,arr,t,dW,h5,rfl,?_,h7,fun hx=>?_,Bm (fun _ h=>h) aR cs b o h9 rfl h8,fun _=>h9,fun _=>h4,by simp⟩
   ·show cs.length<=c*sz
    rw [h6];exact yU _ h1
   ·grind
  obtain ⟨S',k1,k2,k3⟩:=ajU (p:=⟨b,o,c*sz,sz⟩) hh bJ (by omega) asx (by show _<=b;omega) h4 (fun j q hq e=>nf j q hq (by rw [e];simp)) (fun o' j9=>by
   obtain ⟨o'',g1,g2⟩:=hl ct (.cells true true ex sz cs) (by rw [gP];simp)
   rw [j9] at g1;injection g1 with g1
   subst g1
   exact Wg (p:=⟨b,o,c*sz,sz⟩) g2 dW nd (by simp [iO]))
  refine ⟨_,S',k1,jJ bJ,fun id p an=>?_,?_,k2,fun b' cO=>(k3 b' cO).imp (fun h=>h) (fun h=>by rw [h];simp)⟩
  ·by_cases hc:id=ct
   ·subst hc;rw [dW] at an;injection an with an
    subst an;exact .inr ⟨yv _,by simp [eX],by simp⟩
   ·rw [dV hc] at an;exact .inl an
  ·simp only [eX,ai];exact ⟨_,c,dW,by simp,h1,by simp⟩
 | _=>
  exact ⟨m,S,hh,dn.refl,fun _ _ h=> .inl h,oN (fun _ h=>h) aR _ _ hr.2.2 hr.2.1,fun _ h=>h,fun _ h=> .inl h⟩
def G7 {hp:Hp} {ct:Nat} {r:AV} (hf:∀id o,aw hp id=some o->id<ct):∀id o,aw (eX hp ct r).2.1 id=some o->id<(eX hp ct r).2.2:=by
 intro id o h;cases r<;>simp only [eX] at h ⊢<;>try exact hf id o h
 rw [gP] at h
 grind
def Lv:∀{vs:List AV} {hp:Hp} {ct:Nat},(∀id o,aw hp id=some o->id<ct)->∀id o,aw hp id=some o->aw (jk hp ct vs).2.1 id=some o
 | [],hp,ct,_,id,o,h=>by simpa [jk] using h
 | v::r,hp,ct,hf,id,o,h=>by
  exact Lv (G7 hf) id o (Qi hf id o h)
def Zc {lo:Nat} (bi:O.w0.heap.size<=lo):∀{vs:List AV} {us:List ye} {bs:List Nat} {hp:Hp} {ct:Nat} {m:Mp} {S:Nat->Prop},aV O m S w H cH->da (jk hp ct vs).2.1 H->(jk hp ct vs).2.2<=cH->
  (∀id o,aw hp id=some o->id<ct)->(∀id,ct<=id->id<(jk hp ct vs).2.2->m id=none)->
  jW O.ah S w lo vs us bs->bs.Nodup->(∀j q,m j=some q->q.b∉bs)->
  ∃m' S',aV O m' S' w H cH/\dn m m'/\(∀id p,m' id=some p->m id=some p\/(ct<=id/\id<(jk hp ct vs).2.2/\p.b∈bs))/\ap O.ah m' S' w (jk hp ct vs).1 us/\(∀b,S b->S' b)/\(∀b,S' b->S b\/b∈bs)
 | [],us,bs,hp,ct,m,S,hh,hl,gL,hf,hn,hr,kQ,nf=>by
  simp only [jW] at hr;exact ⟨m,S,hh,dn.refl,fun _ _ h=> .inl h,by simp only [jk,ap];exact hr.1,fun _ h=>h,fun _ h=> .inl h⟩
 | v::r,us,bs,hp,ct,m,S,hh,hl,gL,hf,hn,hr,kQ,nf=>by
  simp only [jW] at hr;obtain ⟨u,t,b1,b2,rfl,rfl,h1,h2⟩:=hr;simp only [jk] at hl gL hn ⊢;have dU:=Lt (hp:=hp) (ct:=ct) (r:=v);have qU:=Lu (vs:=r) (hp:=(eX hp ct v).2.1) (ct:=(eX hp ct v).2.2);rw [List.nodup_append] at kQ;obtain ⟨m1,S1,k1,k2,k3,k4,k5,k6⟩:=Zb (hp:=hp) (ct:=ct) (lo:=lo) hh ((fun id o h=>hl id o (Lv (G7 hf) id o h))) (by omega) (fun id g1 g2=>hn id g1 (by omega)) h1 bi
   (fun j q hq hb=>nf j q hq (by simp [hb]))
  have h2':jW O.ah S1 w lo r t b2:=by
   clear k4;have RW:∀b,S1 b->S b\/b∈b1:=k6;have hd:∀b,b∈b2->b∉b1:=fun b hb jo=>kQ.2.2 b jo b hb rfl
   have one:∀{v:AV} {u:ye} {bb:List Nat},(∀b,b∈bb->b∉b1)->gW O.ah S w lo v u bb->gW O.ah S1 w lo v u bb:=by
    intro v u bb qP h
    cases v with
    | cp ex sz n cs=>
     simp only [gW] at h ⊢;obtain ⟨b,o,c,arr,tt,rfl,rfl,g1,g2,g3,g4,g5,g6,g7,g8,g9⟩:=h;exact ⟨b,o,c,arr,tt,rfl,rfl,g1,g2,g3,fun hs=>(RW b hs).elim g4 (qP b (by simp)),g5,g6,g7,Bm k5 (fun _ _=>rfl) cs b o g9 rfl g8,g9⟩
    | _=>simp only [gW] at h ⊢;exact ⟨h.1,oN k5 (fun _ _=>rfl) _ _ h.2.2 h.2.1,h.2.2⟩
   clear k1 k2 k3 hl gL hn nf kQ;revert hd h2;generalize b2=bb
   induction r generalizing t bb with
   | nil=>intro h2 hd;simpa only [jW] using h2
   | cons v' r ih=>
    intro h2 hd;simp only [jW] at h2 ⊢;obtain ⟨u',t',c1,c2,rfl,rfl,g1,g2⟩:=h2
    exact ⟨u',t',c1,c2,rfl,rfl,one (fun b hb=>hd b (by simp [hb])) g1,ih _ (by
     have:=Lu (vs:=r) (hp:=(eX hp ct v).2.1) (ct:=(eX hp ct v).2.2)
     exact this) _ g2 (fun b hb=>hd b (by simp [hb]))⟩
  obtain ⟨m2,S2,g1,g2,g3,g4,g5,g6⟩:=Zc bi (vs:=r) (us:=t) (bs:=b2) (m:=m1) (S:=S1) k1 hl gL (G7 hf) (fun id q1 q2=>by
   cases hq:m1 id with
   | none=>rfl
   | some p=>
    rcases k3 id p hq with h | ⟨_,h,_⟩
    ·rw [hn id (by omega) q2] at h;cases h
    ·omega) h2' kQ.2.1 (fun j q hq hb=>by
     rcases k3 j q hq with h | ⟨_,_,h⟩
     ·exact nf j q h (by simp [hb])
     ·exact kQ.2.2 q.b h q.b hb rfl)
  refine ⟨m2,S2,g1,k2.trans g2,fun id p an=>?_,?_,fun b hb=>g5 b (k5 b hb),fun b hb=>?_⟩
  ·rcases g3 id p an with h | ⟨a1,a2,a3⟩
   ·rcases k3 id p h with h | ⟨a1,a2,a3⟩
    ·exact .inl h
    ·exact .inr ⟨a1,by omega,by simp [a3]⟩
   ·exact .inr ⟨by omega,a2,by simp [a3]⟩
  ·simp only [ap];exact ⟨u,t,rfl,lf g2 g5 (fun _ _=>rfl) _ _ k4,g4⟩
  ·rcases g6 b hb with h | h
   ·exact (k6 b h).imp (fun h=>h) (fun h=>by simp [h])
   ·exact .inr (by simp [h])
def aoj {hp:Hp} {ct lo:Nat} {r:AV} {u:ye} (hh:aV O m S w H cH) (hl:da (own hp ct r).2.1 H) (gL:(own hp ct r).2.2<=cH) (hf:∀id o,aw hp id=some o->id<ct)
  (hn:∀id,ct<=id->id<(own hp ct r).2.2->m id=none) (hr:mM O.ah S w lo r u) (bi:O.w0.heap.size<=lo) (Jt:∀j q,m j=some q->q.b<lo):
  ∃m' S',aV O m' S' w H cH/\dn m m'/\(∀id p,m' id=some p->m id=some p\/(ct<=id/\id<(own hp ct r).2.2/\lo<=p.b))/\ai O.ah m' S' w (own hp ct r).1 u/\(∀b,S b->S' b)/\(∀b,S' b->S b\/lo<=b):=by
 have one:∀(r:AV) (bs:List Nat),own hp ct r=eX hp ct r->gW O.ah S w lo r u bs->da (own hp ct r).2.1 H->(own hp ct r).2.2<=cH->(∀id,ct<=id->id<(own hp ct r).2.2->m id=none)->
   ∃m' S',aV O m' S' w H cH/\dn m m'/\(∀id p,m' id=some p->m id=some p\/(ct<=id/\id<(own hp ct r).2.2/\lo<=p.b))/\ai O.ah m' S' w (own hp ct r).1 u/\(∀b,S b->S' b)/\(∀b,S' b->S b\/lo<=b):=by
  intro r bs he hr hl gL hn;rw [he] at hl gL hn ⊢;have Cd:=Qg hr;obtain ⟨m',S',k1,k2,k3,k4,k5,k6⟩:=Zb hh hl gL hn hr bi (fun j q hq hb=>by have:=Jt j q hq;have:=(Cd _ hb).1;omega)
  exact ⟨m',S',k1,k2,fun id p h=>(k3 id p h).imp (fun h=>h) (fun h=>⟨h.1,h.2.1,(Cd _ h.2.2).1⟩),k4,k5,fun b hb=>(k6 b hb).imp (fun h=>h) (fun h=>(Cd _ h).1)⟩
 cases r with
 | aq vs=>
  simp only [own] at hl gL hn ⊢;simp only [mM] at hr;obtain ⟨us,bs,rfl,h1,h2⟩:=hr;have Cd:=Qh h1;obtain ⟨m',S',k1,k2,k3,k4,k5,k6⟩:=Zc bi hh hl gL hf hn h1 h2 (fun j q hq hb=>by have:=Jt j q hq;have:=(Cd _ hb).1;omega)
  exact ⟨m',S',k1,k2,fun id p h=>(k3 id p h).imp (fun h=>h) (fun h=>⟨h.1,h.2.1,(Cd _ h.2.2).1⟩),by simp only [ai];exact ⟨us,rfl,k4⟩,k5,fun b hb=>(k6 b hb).imp (fun h=>h) (fun h=>(Cd _ h).1)⟩
 | _=>
  simp only [mM] at hr;obtain ⟨bs,hr⟩:=hr;exact one _ bs rfl hr hl gL hn
end
end
section
open Go
section
variable {O:bq} {m m':Mp} {S:Nat->Prop} {w:yg} {f:Nat->Option Nat}
def Eb (f:Nat->Option Nat) (m m':Mp):Prop:=∀id j,f id=some j->m' j=m id
mutual
def Zd {ah:Nat->Nat} (hf:Eb f m m'):∀(v:AV) (u:ye),ai ah m S w v u->ai ah m' S w (cd f v) u
 | .int _ _,_,h | .bool _,_,h | .dh _ _,_,h | .str _,_,h | .jU,_,h | .ab,_,h | .ib,_,h | .jz,_,h | .undef,_,h=>by
  simpa only [cd,ai] using h
 | .ptr id o,u,h=>by
  simp only [cd]
  cases hi:f id with
  | none=>simp only [ai]
  | some j=>
   simp only [ai] at h ⊢;rw [hf id j hi];exact h
 | .aO cs,u,h=>by
  simp only [cd];exact oN (fun _ h=>h) (fun _ _=>rfl) _ _ (by simp [aX]) h
 | .aH ex n cs,u,h=>by
  simp only [cd];exact oN (fun _ h=>h) (fun _ _=>rfl) _ _ (by simp [aX]) h
 | .cp _ _ _ _,u,h=>by simp only [ai] at h
 | .aE id o n,u,h=>by
  simp only [cd]
  cases hi:f id with
  | none=>simp only [ai]
  | some j=>
   simp only [ai] at h ⊢;rw [hf id j hi];exact h
 | .fn (.f g) first cap,u,h=>by
  simp only [cd,ai] at h ⊢;obtain ⟨fi,ca,h1,h2,h3⟩:=h;exact ⟨fi,ca,h1,zE hf first _ h2,zE hf cap _ h3⟩
 | .fn (.y l) first cap,u,h=>by
  simp only [cd]
  cases hi:f l with
  | none=>simp only [ai]
  | some j=>
   simp only [ai] at h ⊢;rw [hf l j hi];exact h
 | .map id,u,h=>by
  simp only [cd]
  cases hi:f id with
  | none=>simp only [ai]
  | some j=>
   simp only [ai] at h ⊢;rw [hf id j hi];exact h
 | .jj ks vs,u,h=>by
  simp only [cd];exact oN (fun _ h=>h) (fun _ _=>rfl) _ _ (by simp [aX]) h
 | .it id,u,h=>by
  simp only [cd]
  cases hi:f id with
  | none=>simp only [ai]
  | some j=>
   simp only [ai] at h ⊢;rw [hf id j hi];exact h
 | .agg cs,u,h=>by
  simp only [cd,ai] at h ⊢;obtain ⟨xs,h1,h2⟩:=h;exact ⟨xs,h1,zE hf cs _ h2⟩
 | .aq cs,u,h=>by
  simp only [cd,ai] at h ⊢;obtain ⟨xs,h1,h2⟩:=h;exact ⟨xs,h1,zE hf cs _ h2⟩
def zE {ah:Nat->Nat} (hf:Eb f m m'):∀(vs:List AV) (us:List ye),ap ah m S w vs us->ap ah m' S w (fu f vs) us
 | [],us,h=>by simpa only [fu,ap] using h
 | v::r,us,h=>by
  simp only [fu,ap] at h ⊢;obtain ⟨u,t,h1,h2,h3⟩:=h;exact ⟨u,t,h1,Zd hf v u h2,zE hf r t h3⟩
end
def ah3 {ah:Nat->Nat} (hf:Eb f m m') {cs:List AV} {b o:Nat} (h:bR ah m S w cs b o):bR ah m' S w (fu f cs) b o:=by
 obtain ⟨us,h1,_,h3⟩:=rD cs b o h;exact Dz _ us o (zE hf cs us h1) h3
def PR:∀cs:List AV,(fu f cs).length=cs.length
 | []=>rfl
 | c::r=>by simp [fu,PR r]
def Yg:∀(tm:Env) (i:Nat),aj (jV f tm) i=cd f (aj tm i)
 | [],i=>by simp [jV,aj,cd]
 | (j,v)::r,i=>by
  simp only [jV,aj]
  cases yt j i with
  | true=>rfl
  | false=>exact Yg r i
def Xv (tm:Env) (i:Nat):∀live:List Nat,aj (dN tm live) i=aj tm i\/aj (dN tm live) i= .undef
 | []=> .inr rfl
 | j::r=>by
  simp only [dN,aj]
  cases hb:yt j i with
  | true=>rw [yk hb];exact .inl rfl
  | false=>exact Xv tm i r
def Yh {tm:Env} {tmps:Array ye} (hf:Eb f m m') (h:cf O m S w tm tmps):cf O m' S w (jV f tm) tmps:=fun i=>by
 rw [Yg];exact Zd hf _ _ (h i)
def ajV {id j:Nat} {o:Obj} {p:Pl} (hf:Eb f m m') (hm:m id=some p) (hj:m' j=some p) (h:fg O m S w id o):fg O m' S w j (kF f o):=by
 cases o with
 | cells rw pu ex sz cs=>
  obtain ⟨q,arr,t,h1,h2,h3,h4,h5,h6,h7,h8,h9,il⟩:=h;rw [hm] at h1;injection h1 with h1;subst h1
  cases pu with
  | true=>exact ⟨p,arr,t,hj,h2,h3,h4,h5,h6,Bm (fun _ h=>h) (fun _ _=>rfl) _ _ _ (h8 rfl) rfl h7,h8,h9,il⟩
  | false=>exact ⟨p,arr,t,hj,h2,h3,by rw [yM,PR];exact h4,h5,by rw [yM,PR];exact h6,ah3 hf h7,by simp,h9,il⟩
 | mp rw ks vs=>
  obtain ⟨q,es,clock,h1,h2,h3,h4,h5,h6⟩:=h;rw [hm] at h1;injection h1 with h1;subst h1
  exact ⟨p,es,clock,hj,h2,zE hf _ _ h3,zE hf _ _ h4,h5,h6⟩
 | si s pos=>
  obtain ⟨q,t,h1,h2,h3,h4⟩:=h;rw [hm] at h1;injection h1 with h1;subst h1
  exact ⟨p,t,hj,h2,h3,h4⟩
 | lp tm ps cK body st pe=>
  obtain ⟨q,l,hi,h1,h2,h3,h4,h5,h6,h7,h8⟩:=h;rw [hm] at h1;injection h1 with h1;subst h1
  exact ⟨p,l,hi,hj,h2,h3,h4,h5,h6,Yh hf h7,h8⟩
def Xw {i:Nat}:∀{l:List Nat} {k j:Nat},lG i l k=some j->k<=j/\l[j-k]? =some i
 | [],k,j,h=>by simp [lG] at h
 | x::r,k,j,h=>by
  simp only [lG] at h
  cases hb:yt x i with
  | true=>
   simp_all
  | false=>
   rw [hb] at h;obtain ⟨h1,h2⟩:=Xw h
   grind
def rN {a b:Nat}:yI a b=true↔a<b:=by simp_all
def KC {hp:Hp} {j:Nat} {o':Obj}:∀{l:List Nat} {k:Nat} {acc:Hp},aw (jN hp f l k acc) j=some o'->
  (∃i id o,l[i]? =some id/\j=k+i/\aw hp id=some o/\o'=kF f o)\/aw acc j=some o'
 | [],k,acc,h=> .inr h
 | x::r,k,acc,h=>by
  simp only [jN] at h
  cases hx:aw hp x with
  | none=>
   simp only [hx] at h;rcases KC h with ⟨i,id,o,h1,h2,h3,h4⟩ | h
   ·exact .inl ⟨i+1,id,o,by simpa using h1,by omega,h3,h4⟩
   ·grind
  | some o=>
   simp only [hx] at h;rcases KC h with ⟨i,id,o,h1,h2,h3,h4⟩ | h
   ·exact .inl ⟨i+1,id,o,by simpa using h1,by omega,h3,h4⟩
   ·rw [gP] at h;by_cases hc:k=j
    ·simp only [hc,xh,yc] at h;exact .inl ⟨0,x,o,by simp,by omega,hx,h.symm⟩
    ·grind
def KD {base:Nat} {j:Nat} {o':Obj}:∀{hp:Hp},aw (lA base f hp) j=some o'->j<base/\∃o,aw hp j=some o/\o'=kF f o
 | [],h=>by simp [lA,aw] at h
 | (i,q)::r,h=>by
  simp only [lA] at h
  cases hb:yI i base with
  | true=>
   rw [hb] at h;simp only [yy] at h;rw [gP] at h;by_cases hc:i=j
   ·simp only [hc,xh,yc] at h;exact ⟨by rw [<-hc];exact rN.1 hb,q,by rw [gP];simp [hc],h.symm⟩
   ·simp only [hc,y8] at h;obtain ⟨h1,o,h2,h3⟩:=KD h;exact ⟨h1,o,by rw [gP];simp [hc,h2],h3⟩
  | false=>
   rw [hb] at h;obtain ⟨h1,o,h2,h3⟩:=KD h;have hc:¬i=j:=fun e=>by
    have:=rN.2 h1
    grind
   exact ⟨h1,o,by rw [gP];simp [hc,h2],h3⟩
def nY (m:Mp) (base:Nat) (seen:List Nat):Mp:=fun j=>
 if j<base then m j else match seen[j-base]? with
  | some id=>if jM base seen id=some j then m id else none
  | none=>none
def Py {base:Nat} {seen:List Nat} {j:Nat} {p:Pl} (h:nY m base seen j=some p):∃id,jM base seen id=some j/\m id=some p/\(j<base->id=j):=by
 unfold nY at h
 split at h
 ·rename_i hj;exact ⟨j,by simp [jM,rN.2 hj],h,fun _=>rfl⟩
 ·grind
def ajW {base:Nat} {seen:List Nat}:Eb (jM base seen) m (nY m base seen):=by
 intro id j h;have h0:=h;unfold jM at h
 cases hb:yI id base with
 | true=>
  rw [hb] at h;simp only [yy,yc] at h;subst h;simp [nY,rN.1 hb]
 | false=>
  rw [hb] at h;obtain ⟨h1,h2⟩:=Xw h
  have:¬j<base:=by omega
  simp only [nY,this,y8,h2,h0,xh]
def Pf {s:St} {tmps:Array ye} {live:List Nat} (ht:cf O m S w s.tm tmps) (hh:aV O m S w s.hp s.ct) (hb:s.base<=s.ct):
  ∃m',cf O m' S w (bf live s).tm tmps/\aV O m' S w (bf live s).hp (bf live s).ct/\(bf live s).base=s.base/\s.base<=(bf live s).ct/\cm m S w s.hp m' S w (bf live s).hp s.base:=by
 simp only [bf];generalize abB:reach s.hp s.base 100000 (iS (dN s.tm live)++iN s.base s.hp) []=seen;have hr:=ajW (m:=m) (base:=s.base) (seen:=seen);have a6:∀j p,nY m s.base seen j=some p->j<s.base+seen.length:=by
  intro j p h;unfold nY at h
  grind
 have back:∀j o' p,aw (jN s.hp (jM s.base seen) seen s.base (lA s.base (jM s.base seen) s.hp)) j=some o'->nY m s.base seen j=some p->
   ∃id o,jM s.base seen id=some j/\aw s.hp id=some o/\m id=some p/\o'=kF (jM s.base seen) o:=by
  intro j o' p ho hm;obtain ⟨id,h1,h2,h3⟩:=Py hm;rcases KC ho with ⟨i,TV,o,g1,g2,g3,g4⟩ | ho
  ·have hj:¬j<s.base:=by omega
   have:nY m s.base seen j=if jM s.base seen TV=some j then m TV else none:=by
    simp only [nY,hj,y8,show j-s.base=i by omega,g1]
   grind
  ·obtain ⟨g1,o,g2,g3⟩:=KD ho
   grind
 refine ⟨nY m s.base seen,?_,⟨?_,a6,?_,hh.slt,?_,?_,hh.kH,hh.fF,fun j o' ho=>(by
  rcases KC ho with ⟨i,TV,o,g1,g2,g3,g4⟩ | ho
  ·grind
  ·have:=(KD ho).1;omega)⟩,by trivial,by omega,⟨rfl,rfl,rfl,yv _,fun _ _ _=>rfl,fun _ h=>h,fun _ _=>rfl,fun _ h=> .inl h,?_,?_,fun _ r h=>⟨r,h⟩⟩⟩
 ·refine Yh hr (fun i=>?_);rcases Xv s.tm i live with h | h
  ·rw [h];exact ht i
  ·rw [h];simp only [ai]
 ·intro j o' p ho hm;obtain ⟨id,o,h1,h2,h3,rfl⟩:=back j o' p ho hm;exact ajV hr h3 hm (hh.obj id o p h2 h3)
 ·intro i j oi oj pi pj hi hj bJ fL e;obtain ⟨idi,o1,a1,a2,a3,_⟩:=back i oi pi hi bJ;obtain ⟨idj,o2,b1,b2,b3,_⟩:=back j oj pj hj fL
  have:=hh.inj idi idj o1 o2 pi pj a2 b2 a3 b3 e
  grind
 ·intro j p hm;obtain ⟨id,_,h2,_⟩:=Py hm;exact hh.blt id p h2
 ·intro j p hm;obtain ⟨id,_,h2,_⟩:=Py hm;exact hh.low id p h2
 ·rintro b ⟨j,o',p,h1,h2,h3⟩;obtain ⟨id,o,_,g2,g3,_⟩:=back j o' p h1 h2;exact .inl ⟨id,o,p,g2,g3,h3⟩
 ·intro id p hid hm;simp [nY,hid,hm]
end
end
section
open Go
section
variable {O:bq} {m:Mp} {S:Nat->Prop} {w:yg} {hp:Hp} {ct:Nat}
def Yi (hh:aV O m S w hp ct) (id:Nat):aV O m S w (ep hp id) ct:=by
 have sub:∀i o,aw (ep hp id) i=some o->aw hp i=some o:=fun i o h=>by
  rw [GM] at h
  grind
 exact ⟨fun i o p h hm=>hh.obj i o p (sub i o h) hm,hh.lt,fun i j oi oj pi pj hi hj=>hh.inj i j oi oj pi pj (sub i oi hi) (sub j oj hj),hh.slt,hh.blt,hh.low,hh.kH,hh.fF,fun i o h=>hh.a6 i o (sub i o h)⟩
def Ze {id b:Nat} (h:dR m (ep hp id) b):dR m hp b:=by
 obtain ⟨i,o,p,h1,h2,h3⟩:=h;rw [GM] at h1;by_cases hc:id=i
 ·grind
 ·simp only [hc,y8] at h1;exact ⟨i,o,p,h1,h2,h3⟩
def Wi (hh:aV O m S w hp ct) {id:Nat} {o:Obj} {p:Pl} (hg:aw hp id=some o) (hm:m id=some p):¬dR m (ep hp id) p.b:=by
 rintro ⟨i,o',q,h1,h2,h3⟩;rw [GM] at h1;by_cases hc:id=i
 ·grind
 ·simp only [hc,y8] at h1;exact hc (hh.inj i id o' o q p h1 hg h2 hm h3).symm
def al6 {an:Hp} (hd:ju hp an) {b:Nat} (h:dR m an b):dR m hp b:=by
 obtain ⟨i,o,p,h1,h2,h3⟩:=h
 have:=hd i
 rw [h1] at this
 cases hq:aw hp i with
 | none=>rw [hq] at this;cases this
 | some q=>exact ⟨i,q,p,hq,h2,h3⟩
def WK {lo:Nat} {v v':AV} {an:Hp} {n:Nat} (hh:aV O m S w hp ct) (hf:freeze n hp v=some (v',an)) {u:ye} (hv:ai O.ah m S w v u):
  ∃S',aV O m S' w an ct/\(∀b,S b->S' b)/\(∀b,S' b->S b\/dR m hp b)/\aX v'=true/\ai O.ah eM S' w v' u/\gW O.ah S' w lo v' u []:=by
 obtain ⟨h1,h2,h3⟩:=Pu (O:=O) hf;obtain ⟨S',g1,g2,g3⟩:=Y5 hh h1 (fun id o p ho hm=>by
  have:=h2 id
  rw [ho] at this
  cases hq:aw hp id with
  | none=>rw [hq] at this;cases this
  | some q=>exact ⟨q,rfl⟩) (yv _) (fun id o ho=>(by
  have:=h2 id
  rw [ho] at this
  cases hq:aw hp id with
  | none=>rw [hq] at this;cases this
  | some q=>exact hh.a6 id q hq))
 obtain ⟨k1,k2⟩:=h3 an m S' w ct da.refl g1;have hr:=k1 u (lf (fun _ _ h=>h) g2 (fun _ _=>rfl) v u hv);have bY:ai O.ah eM S' w v' u:=oN (fun _ h=>h) (fun _ _=>rfl) v' u k2 hr;refine ⟨S',g1,g2,g3,k2,bY,?_⟩
 cases v' with
 | cp _ _ _ _=>simp [aX] at k2
 | _=>exact ⟨rfl,bY,k2⟩
def ah4 {S':Nat->Prop} {lo:Nat} {v:AV} {u:ye} {bs:List Nat} (hS:∀b,S b->S' b) (hn:∀b,b∈bs->¬S' b) (h:gW O.ah S w lo v u bs):gW O.ah S' w lo v u bs:=by
 cases v with
 | cp ex sz n cs=>
  obtain ⟨b,o,c,arr,t,rfl,rfl,g1,g2,g3,g4,g5,g6,g7,g8,g9⟩:=h;exact ⟨b,o,c,arr,t,rfl,rfl,g1,g2,g3,hn b (by simp),g5,g6,g7,Bm hS (fun _ _=>rfl) cs b o g9 rfl g8,g9⟩
 | _=>simp only [gW] at h ⊢;exact ⟨h.1,oN hS (fun _ _=>rfl) _ _ h.2.2 h.2.1,h.2.2⟩
def Xx {lo:Nat} {v v':AV} {an:Hp} {n:Nat} (hh:aV O m S w hp ct) (hf:rP n hp v=some (v',an)) {u:ye} (hv:ai O.ah m S w v u) (bi:∀b,dR m hp b->lo<=b):
  ∃S' bs,aV O m S' w an ct/\(∀b,S b->S' b)/\(∀b,S' b->S b\/dR m hp b)/\gW O.ah S' w lo v' u bs/\bs.Nodup/\(∀b,b∈bs->dR m hp b/\¬dR m an b)/\(∀b,dR m an b->dR m hp b):=by
 have frozen:freeze n hp v=some (v',an)->∃S' bs,aV O m S' w an ct/\(∀b,S b->S' b)/\(∀b,S' b->S b\/dR m hp b)/\gW O.ah S' w lo v' u bs/\bs.Nodup/\(∀b,b∈bs->dR m hp b/\¬dR m an b)/\(∀b,dR m an b->dR m hp b):=by
  intro hz;obtain ⟨S',g1,g2,g3,g4,g5,g6⟩:=WK (lo:=lo) hh hz hv
  exact ⟨S',[],g1,g2,g3,g6,by simp,by simp,fun b hb=>al6 (Pu (O:=O) hz).2.1 hb⟩
 unfold rP at hf
 split at hf
 ·rename_i id o k
  split at hf
  ·rename_i ex sz cs hg
   cases hc:yB (o+k*sz) cs.length with
   | false=>rw [hc] at hf;cases hf
   | true=>
    rw [hc] at hf;obtain ⟨rfl,rfl⟩:=hf;have hle:=yr hc;obtain ⟨p,c,hm,rfl,h1,h2⟩:=hv;obtain ⟨p',arr,t,g1,g2,g3,g4,g5,g6,g7,g8,g9,g10⟩:=hh.obj id _ _ hg hm;rw [hm] at g1;injection g1 with g1
    subst g1;rw [g3] at h2;refine ⟨S,[p.b],Yi hh id,fun _ h=>h,fun _ h=> .inl h,?_,by simp,?_,fun b hb=>Ze hb⟩
    ·refine ⟨p.b,p.o+o,c,arr,t,rfl,rfl,h1,?_,bi _ (Hj hg hm),g9 rfl,g2,?_,by omega,?_,Bl _ (zy _ _ (g8 rfl))⟩
     ·intro hx;simp only [yf] at hx;have e1:=yk hx.2;have e2:=rN.1 hx.1.2;have e3:=g6 hx.1.1
      have:c*sz=k*sz:=by omega
      exact Nat.eq_of_mul_eq_mul_right e2 this
     ·simp only [slice,yQ,xY];omega
     ·exact Bm (fun _ h=>h) (fun _ _=>rfl) _ _ _ (Bl _ (zy _ _ (g8 rfl))) rfl (Bo _ _ _ _ (pG _ _ _ _ g7))
    ·intro b hb;simp only [List.mem_singleton] at hb;subst hb;exact ⟨Hj hg hm,Wi hh hg hm⟩
  ·grind
 ·grind
def WL {lo n:Nat}:∀{vs dQ:List AV} {us:List ye} {hp an:Hp} {S:Nat->Prop},aV O m S w hp ct->zK n hp vs=some (dQ,an)->ap O.ah m S w vs us->(∀b,dR m hp b->lo<=b)->
  ∃S' bs,(∀b,S b->S' b)/\(∀b,S' b->S b\/dR m hp b)/\jW O.ah S' w lo dQ us bs/\bs.Nodup/\(∀b,b∈bs->dR m hp b)/\(∀b,S' b->b<w.heap.size)
 | [],dQ,us,hp,an,S,hh,hf,hv,bi=>by
  obtain ⟨rfl,rfl⟩:=hf;exact ⟨S,[],fun _ h=>h,fun _ h=> .inl h,by simp only [jW];exact ⟨hv,by trivial⟩,by simp,by simp,hh.slt⟩
 | v::r,dQ,us,hp,an,S,hh,hf,hv,bi=>by
  simp only [zK] at hf
  cases h1:rP n hp v with
  | none=>simp [h1] at hf
  | some q=>
   obtain ⟨v1,bA⟩:=q;simp only [h1] at hf
   cases h2:zK n bA r with
   | none=>simp [h2] at hf
   | some q2=>
    simp only [h2,yc,ym] at hf;obtain ⟨rfl,rfl⟩:=hf;obtain ⟨u,t,rfl,eI,cT⟩:=hv;obtain ⟨S1,b1,k1,k2,k3,k4,k5,k6,k7⟩:=Xx (lo:=lo) hh h1 eI bi;obtain ⟨S2,b2,g1,g2,g3,g4,g5,g6⟩:=WL (us:=t) k1 h2 (gO (fun _ _ h=>h) k2 (fun _ _=>rfl) _ _ cT) (fun b hb=>bi b (k7 b hb));have RW:∀b,b∈b1->¬S2 b:=by
     intro b hb hs;rcases g2 b hs with h | h
     ·cases v1 with
      | cp ex sz n cs=>
       simp only [gW] at k4
       grind
      | _=>simp only [gW] at k4;rw [k4.1] at hb;cases hb
     ·grind
    refine ⟨S2,b1++b2,fun b hb=>g1 b (k2 b hb),fun b hb=>?_,?_,?_,?_,g6⟩
    ·grind
    ·simp only [jW];exact ⟨u,t,b1,b2,rfl,rfl,ah4 g1 RW k4,g3⟩
    ·grind
    ·grind
def Pz {lo:Nat}:∀{cs:List AV} {us:List ye},aK cs=true->ap O.ah eM S w cs us->jW O.ah S w lo cs us []
 | [],us,_,h=>by simp only [ap] at h;exact ⟨h,by trivial⟩
 | c::r,us,hp,h=>by
  obtain ⟨u,t,rfl,h1,h2⟩:=h;simp only [aK,yf] at hp;refine ⟨u,t,[],[],rfl,rfl,?_,Pz hp.2 h2⟩
  cases c with
  | cp _ _ _ _=>simp [aX] at hp
  | _=>exact ⟨rfl,h1,hp.1⟩
def ah5 {lo:Nat} {v r:AV} {u:ye} (hh:aV O m S w hp ct) (hr:result hp v=some r) (hv:ai O.ah m S w v u) (bi:∀b,dR m hp b->lo<=b):
  ∃S',(∀b,S b->S' b)/\(∀b,S' b->S b\/dR m hp b)/\(∀b,S' b->b<w.heap.size)/\mM O.ah S' w lo r u:=by
 unfold result at hr
 split at hr
 ·rename_i vs
  split at hr
  ·cases h1:zK deep hp vs with
   | none=>simp [h1] at hr
   | some q=>
    simp only [h1,yc] at hr;subst hr;obtain ⟨us,rfl,hv⟩:=hv;obtain ⟨S',bs,g1,g2,g3,g4,g5,g6⟩:=WL (lo:=lo) hh h1 hv bi;exact ⟨S',g1,g2,g6,us,bs,rfl,g3,g4⟩
  ·cases h1:freeze deep hp (.aq vs) with
   | none=>simp [h1] at hr
   | some q=>
    obtain ⟨v',an⟩:=q;simp only [h1,yc] at hr;subst hr;obtain ⟨S',g1,g2,g3,g4,g5,g6⟩:=WK (lo:=lo) hh h1 hv;refine ⟨S',g2,g3,g1.slt,?_⟩
    cases v' with
    | aq cs=>
     obtain ⟨xs,rfl,g5⟩:=g5;exact ⟨xs,[],rfl,Pz (by simpa [aX] using g4) g5,by simp⟩
    | _=>exact ⟨[],g6⟩
 ·rename_i NX
  cases h1:rP deep hp v with
  | none=>simp [h1] at hr
  | some q=>
   obtain ⟨v',an⟩:=q;simp only [h1,yc] at hr;subst hr;obtain ⟨S',bs,g1,g2,g3,g4,_⟩:=Xx (lo:=lo) hh h1 hv bi;refine ⟨S',g2,g3,g1.slt,?_⟩
   cases v' with
   | aq cs=>
    obtain ⟨rfl,h2,h3⟩:=g4;obtain ⟨xs,rfl,h2⟩:=h2;exact ⟨xs,[],rfl,Pz (by simpa [aX] using h3) h2,by simp⟩
   | _=>exact ⟨bs,g4⟩
end
end
end VE
