import Derived.Laws.CopyOwn
import Derived.Test.YtflgmingejdfnaaGreatDoorUac
set_option linter.all false
set_option maxRecDepth 100000
open Array renaming length_toList→vK
open Bool renaming and_eq_true→yg,false_eq_true→yA
open Go renaming Loop→uz,MapEntry→uB,Next→yaU,Obj→ybs,Oper→yY,Operand→xB,Program→y7,TypeDesc→vl,TypeId→yv,TypeInfo→yci,Value→yf,World→yh,sizeOf→uj
open List renaming append_assoc→xo,cons_append→yW,eq_nil_of_length_eq_zero→yH,ext_getElem?→yas,getElem?_append_left→xU,getElem?_append_right→xF,getElem?_drop→yaj,getElem?_take_of_lt→vY,getElem?_toArray→tJ,length_append→yO,length_drop→wA,length_take→yS,map_cons→y8,mem_append→wG,size_toArray→uH,take_of_length_le→yK
open Nat renaming add_mul→wZ,add_zero→yZ,beq→yx,beq_refl→xq,ble→yE,blt→yJ,eq_of_beq_eq_true→yo,eq_zero_or_pos→xu,le_of_ble_eq_true→yC,le_refl→yB,min_le_left→yaZ,mul_le_mul_right→y5,zero_add→yd
open Option renaming isSome_none→tR
open Option.some renaming injEq→yc
open Prod.mk renaming injEq→yk
open UInt8 renaming toNat→yX
namespace VE
section
open Go
section
variable {O:bD} {H:Hint} {m:Mp} {S:Nat->Prop} {w:yh} {tm:Env} {a:Act} {hp:Hp} {ct:Nat}
structure One (w w':yh) (g:Nat):Prop where
 os:w'.os=w.os
 tape:w'.tape=w.tape
 output:w'.output=w.output
 size:w'.heap.size=w.heap.size
 other:∀b,b≠g->w'.heap[b]? =w.heap[b]?
def R9 (w:yh) (g:Nat) (cs:Array yf):One w (w.setRow g cs) g:=
 ⟨rfl,rfl,rfl,by simp,fun b hb=>setRow_other w g b cs hb⟩
def JQ {id:Nat} {o:Obj} {p:Pl} (h:ap hp id=some o) (hm:m id=some p):eL m hp p.b:=⟨id,o,p,h,hm,rfl⟩
def an1 {id:Nat} {o':Obj} {b:Nat} (h:eL m (bf hp id o') b):eL m hp b:=by
 obtain ⟨i,o,p,h1,h2,h3⟩:=h;rw [sJ] at h1;by_cases hi:id=i
 ·subst hi
  cases hq:ap hp id with
  | none=>simp [hq] at h1
  | some q=>exact ⟨id,q,p,hq,h2,h3⟩
 ·simp only [hi,yN] at h1;exact ⟨i,o,p,h1,h2,h3⟩
def Jv (hh:bg O m S w hp ct) {id:Nat} {o o':Obj} {p:Pl} {w':yh} (ho:ap hp id=some o) (hm:m id=some p) (hn:¬S p.b) (hw:One w w' p.b) (h':fV O m S w' id o') (hk:∀r:uz,w.heap[p.b]? =some (.loop r)->∃r':uz,w'.heap[p.b]? =some (.loop r')):
  bg O m S w' (bf hp id o') ct/\cG m S w hp m S w' (bf hp id o') ct:=by
 have bh:gI S w w':=fun b hb=>hw.other b (fun e=>hn (e▸hb))
 refine ⟨⟨?_,hh.lt,?_,?_,?_,hh.low,?_,?_,fun i q hq=>(by
  rw [sJ] at hq;by_cases hc:id=i
  ·subst hc;exact hh.bm _ _ ho
  ·simp only [hc,yN] at hq;exact hh.bm _ _ hq)⟩,⟨hw.os,hw.tape,hw.output,by rw [hw.size];exact yB _,?_,fun _ h=>h,fun b hb=>bh b hb,fun b hb=> .inl hb,fun b hb=> .inl (an1 hb),fun _ _ _ h=>h,fun b r hb=>?_⟩⟩
 rotate_right
 ·by_cases hc:b=p.b
  ·subst hc;exact hk r hb
  ·exact ⟨r,(hw.other b hc).trans hb⟩
 ·intro i q pi hi bX;rw [sJ] at hi;by_cases hc:id=i
  ·subst hc;simp only [yV,ho,Option.isSome_some] at hi;injection hi with hi
   subst hi;exact h'
  ·simp only [hc,yN] at hi;refine sI (fun _ _ h=>h) (fun _ h=>h) bh (fun q' cz=>?_) (fun _ _ h=>h) (hh.obj i q pi hi bX);exact hw.other _ (fun e=>hc (hh.inj i id q o q' p hi ho cz hm e).symm)
 ·intro i j oi oj pi pj hi hj bX gT e;have key:∀{i:Nat} {oi:Obj},ap (bf hp id o') i=some oi->∃LI,ap hp i=some LI:=by
   intro i oi hi;rw [sJ] at hi;by_cases hc:id=i
   ·subst hc;exact ⟨o,ho⟩
   ·simp only [hc,yN] at hi;exact ⟨oi,hi⟩
  obtain ⟨LI,cu⟩:=key hi;obtain ⟨LF,ol⟩:=key hj;exact hh.inj i j LI LF pi pj cu ol bX gT e
 ·intro b hb;rw [hw.size];exact hh.slt b hb
 ·intro i q hq;rw [hw.size];exact hh.blt i q hq
 ·intro b hb
  rw [hw.other b (fun e=>by have:=hh.low id p hm;omega)];exact hh.mG b hb
 ·rw [hw.size];exact hh.gK
 ·intro b _ hb;exact hw.other b (fun e=>hb (e▸JQ ho hm))
def AH (O:bD) (m:Mp) (S:Nat->Prop) (w:yh) (a:Act) (hp:Hp) (ct:Nat) (o:yY) (v:AV) (ao:Hp) (bj:Nat):Prop:=
 ∃n u w' m' S',(execOp a.eval o).run O.P w= .ok n w'/\(n= .value u\/(n= .skip/\u=undef))/\bg O m' S' w' ao bj/\aj O.ai m' S' w' v u/\dW m m'/\cG m S w hp m' S' w' ao ct
def an2 {ai:Nat->Nat} {v:AV} {u:yf} (h:aj ai m S w v u) (ho:bE v=true):u.oneCell'=true:=by
 cases v with
 | fn f a b=>
  cases f with
  | f g=>simp only [aj] at h;obtain ⟨_,_,rfl,_⟩:=h;rfl
  | y l=>simp only [aj] at h;obtain ⟨_,_,rfl⟩:=h;rfl
 | int k n=>simp only [aj] at h;subst h;rfl
 | bool b=>simp only [aj] at h;subst h;rfl
 | dP k n=>simp only [aj] at h;subst h;rfl
 | str s=>simp only [aj] at h;obtain ⟨_,rfl,_⟩:=h;rfl
 | lm=>simp only [aj] at h;subst h;rfl
 | ptr i k=>simp only [aj] at h;obtain ⟨_,_,rfl⟩:=h;rfl
 | bi cs=>simp only [aj] at h;obtain ⟨_,_,rfl,_⟩:=h;rfl
 | ae=>simp only [aj] at h;subst h;rfl
 | aO e n cs=>simp only [aj] at h;rcases h with ⟨_,_,_,rfl,_⟩ | ⟨_,rfl,_,_⟩<;>rfl
 | cR _ _ _ _=>simp [bE] at ho
 | ak i k n=>simp only [aj] at h;obtain ⟨_,_,_,rfl,_⟩:=h;rfl
 | iH=>simp only [aj] at h;subst h;rfl
 | kF=>simp only [aj] at h;subst h;rfl
 | map i=>simp only [aj] at h;obtain ⟨_,_,rfl⟩:=h;rfl
 | jS ks vs=>simp only [aj] at h;obtain ⟨_,_,_,rfl,_⟩:=h;rfl
 | it i=>simp only [aj] at h;obtain ⟨_,_,rfl⟩:=h;rfl
 | agg cs=>simp [bE] at ho
 | aw cs=>simp [bE] at ho
 | undef=>simp [bE] at ho
def Nk {ai:Nat->Nat}:∀{vs:List AV} {us:List yf},au ai m S w vs us->cf vs=true->∀u∈us,u.oneCell'=true
 | [],us,h,_,u,hu=>by simp only [au] at h;subst h;cases hu
 | v::r,us,h,ho,u,hu=>by
  obtain ⟨u',t,rfl,h1,h2⟩:=h;simp only [cf,yg] at ho;rcases List.mem_cons.1 hu with rfl | hu
  ·exact an2 h1 ho.1
  ·exact Nk h2 ho.2 u hu
def abV {arr:Array yf} {t:yv} {p:Pl} {cs new:List AV} {vs:List yf} {o:Nat} {S':Nat->Prop} {m':Mp} (hb:w.heap[p.b]? =some (.cells arr t (0,0))) (hr:ck O.ai m S w cs p.b p.o)
  (hv:au O.ai m S w new vs) (hl:o+new.length<=cs.length) (hs:p.o+cs.length<=arr.size) {w':yh} (hm:dW m m') (hS:∀b,S b->S' b) (bh:gI S w w')
  (hw:w'.heap[p.b]? =some (.cells (arr.toList.take (p.o+o)++vs++arr.toList.drop (p.o+o+vs.length)).toArray t (0,0))):ck O.ai m' S' w' (over o new cs) p.b p.o:=by
 obtain ⟨us,h1,h2,h3⟩:=Aa cs p.b p.o hr;have hvl:=jo _ _ hv;have h4:au O.ai m S w (over o new cs) (us.take o++vs++us.drop (o+new.length)):=mW (mW (Fv o h1) hv) (Jk _ h1);refine FA _ _ _ (iB hm hS bh _ _ h4) (fun j u hj=>?_);have nl:∀k u,us[k]? =some u->arr[p.o+k]? =some u:=by
  intro k u hk
  have:=h3 k u hk
  simpa [World.cell?,hb] using this
 simp only [World.cell?,hw,tR,yA,yN];rw [tJ];have e1:(arr.toList.take (p.o+o)).length=p.o+o:=by rw [yS,vK];omega
 have e2:(us.take o).length=o:=by rw [yS];omega
 by_cases c1:j<o
 ·have g1:(us.take o++vs++us.drop (o+new.length))[j]? =us[j]? :=by
   rw [xo,xU (by omega),vY c1]
  rw [g1] at hj;rw [xo,xU (by omega),vY (by omega)];simpa using nl j u hj
 ·by_cases c2:j<o+vs.length
  ·have g1:(us.take o++vs++us.drop (o+new.length))[j]? =vs[j-o]? :=by
    rw [xo,xF (by omega),e2,xU (by omega)]
   rw [g1] at hj;rw [xo,xF (by omega),e1,xU (by omega),show p.o+j-(p.o+o)=j-o by omega];exact hj
  ·have g1:(us.take o++vs++us.drop (o+new.length))[j]? =us[j]? :=by
    rw [xo,xF (by omega),e2,xF (by omega),yaj]
    congr 1
    omega
   rw [g1] at hj;rw [xo,xF (by omega),e1,xF (by omega),yaj,show p.o+o+vs.length+(p.o+j-(p.o+o)-vs.length)=p.o+j by omega];simpa using nl j u hj
def NF {o:Nat} {new cs:List AV} (hl:o+new.length<=cs.length):(over o new cs).length=cs.length:=by
 simp only [over,yO,yS,wA];omega
def Z7 {o:Nat} {new cs:List AV} (h:aK cs=true) (h':aK new=true):aK (over o new cs)=true:=
 Fh (Fh (Du _ h) h') (BL _ _ h)
def aqq {o:yY} {t:yv} {x y:xB} {sz:Nat} {v:AV} {ao:Hp} {bj:Nat} (hH:gl O H) (ht:cF O m S w tm a.tmps) (hh:bg O m S w hp ct)
  (ho:o.op= .store t x y) (hz:da O.P t=some sz) (hv:dG tm hp ct (.st sz (aV H x) (aV H y))=some (v,ao,bj)):AH O m S w a hp ct o v ao bj:=by
 simp only [dG] at hv;have rx:=cQ hH ht x;cases hx:aC tm (aV H x)<;>rw [hx] at hv rx<;>simp only [reduceCtorEq] at hv
 rename_i id k;simp only [aj] at rx;obtain ⟨p,hm,ex⟩:=rx
 split at hv
 case h_2=>cases hv
 rename_i pu Qp z cs hg
 cases hc:(yx (cellsOf (aC tm (aV H y))).length sz&&yE (k+sz) cs.length&&cf (cellsOf (aC tm (aV H y)))) with
 | false=>rw [hc] at hv;cases hv
 | true=>
  rw [hc] at hv;simp only [ym,yc,yk] at hv;obtain ⟨rfl,rfl,rfl⟩:=hv;simp only [yg] at hc;have c1:=yo hc.1.1;have c2:=yC hc.1.2;have ry:=Sr (cQ hH ht y) hc.2;have hl:=jo _ _ ry;obtain ⟨p',arr,t',g1,g2,g3,g4,g5,g6,g7,g8,g9,g10⟩:=hh.obj id _ _ hg hm;rw [hm] at g1;injection g1 with g1
  subst g1;have gA:=Nk ry hc.2;have fW:=run_storeCells_at O.P p.b (p.o+k) t' (a.eval y).cells.toList 0 arr w g2 (by rw [hl];omega) gA;simp only [yZ] at fW;have avx:(a.eval y).cells.size=sz:=by simp_all
  have pf:fV O m S (w.setRow p.b (arr.toList.take (p.o+k)++(a.eval y).cells.toList++arr.toList.drop (p.o+k+(a.eval y).cells.toList.length)).toArray) id
    (.cells true (pu&&aK (cellsOf (aC tm (aV H y)))) Qp z (over k (cellsOf (aC tm (aV H y))) cs)):=by
   refine ⟨p,_,t',hm,setRow_heap w p.b arr _ t' _ g2,g3,by rw [NF (by omega)];exact g4,?_,fun h=>by rw [NF (by omega)];exact g6 h,?_,?_,fun _=>g9 rfl,by simp⟩
   ·grind
   ·exact abV g2 g7 ry (by omega) (by omega) dW.refl (fun _ h=>h) (fun b hb=>setRow_other w p.b b _ (fun e=>g9 rfl (e▸hb))) (setRow_heap w p.b arr _ t' _ g2)
   ·intro h;simp only [yg] at h;exact Z7 (g8 h.1) h.2
  obtain ⟨e1,e2⟩:=Jv hh hg hm (g9 rfl) (R9 w p.b _) pf (fun r hr=>by rw [g2] at hr;cases hr);refine ⟨.skip,undef,_,m,S,?_,.inr ⟨rfl,rfl⟩,e1,by simp [aj,au,undef],dW.refl,e2⟩;simp only [execOp,ho,Instr.storeAt,ex,Instr.sureAddr,Sem.run_bind,Sem.run_pure,Result.andThen_ok,storeVar,oC hz,avx,uZ,wD,yN];simp [fW]
def Z8 {d:vl} {k k':yf} (h:Instr.sameNow d k k'=some true):k=k':=by
 unfold Instr.sameNow at h
 split at h
 ·grind
 ·rename_i p q;simp only [yc] at h;have h2:(p.data==q.data)=true:=by cases p;exact h
  cases p;cases q
  grind
 ·grind
 ·cases h
def sameBits_self {d:vl} {k k':yf} (h:Instr.sameNow d k k'=some true) (n:Nat):Instr.sameBits n k' k=true:=by
 have e:=Z8 h;subst e;unfold Instr.sameNow at h
 split at h
 ·simp [Instr.sameBits]
 ·simp only [yc] at h;simp [Instr.sameBits,h]
 ·simp [Instr.sameBits]
 ·cases h
def Put (ai:Nat->Nat) (m:Mp) (S:Nat->Prop) (w:yh) (d:vl) (k x:yf) (es:List uB) (i:Nat) (lD eK:List AV):Prop:=
 (Instr.findNow d k es i=some none/\au ai m S w lD (es.map (·.key)++[k])/\au ai m S w eK (es.map (·.val)++[x]))\/
 ∃(j:Nat) (e0:uB),Instr.findNow d k es i=some (some (i+j,e0.val))/\es[j]? =some e0/\Instr.sameNow d k e0.key=some true/\au ai m S w lD (es.map (·.key))/\au ai m S w eK ((es.map (·.val)).set j x)
def ac5 {ai:Nat->Nat} {vk vx:AV} {k x:yf} {d:vl} (hk:aj ai m S w vk k) (hx:aj ai m S w vx x) (hd:fits d vk=true):∀(ks vs:List AV) (es:List uB) (i:Nat) (lD eK:List AV),
  au ai m S w ks (es.map (·.key))->au ai m S w vs (es.map (·.val))->Cs vk vx ks vs=some (lD,eK)->Put ai m S w d k x es i lD eK
 | [],[],es,i,lD,eK,h1,h2,h=>by
  simp only [au,List.map_eq_nil_iff] at h1;subst h1;obtain ⟨rfl,rfl⟩:=h;exact .inl ⟨rfl,by simp [au,hk],by simp [au,hx]⟩
 | [],_::_,es,i,lD,eK,h1,h2,h=>by simp [Cs] at h
 | _::_,[],es,i,lD,eK,h1,h2,h=>by simp [Cs] at h
 | c::ks,v::vs,es,i,lD,eK,h1,h2,h=>by
  cases es with
  | nil=>simp [au] at h1
  | cons e es=>
   obtain ⟨u,t,⟨rfl,rfl⟩,hc,Qo⟩:=h1;obtain ⟨u',t',⟨rfl,rfl⟩,hv,Bc⟩:=h2;simp only [Cs] at h
   cases Be:Gl vk c with
   | none=>simp [Be] at h
   | some b=>
    have hs:=abR (d:=d) hk hc Be hd
    cases b with
    | true=>
     simp only [Be,yc,yk] at h;obtain ⟨rfl,rfl⟩:=h;refine .inr ⟨0,e,by simp [Instr.findNow,hs],rfl,hs,?_,?_⟩
     ·simp only [y8,au];exact ⟨_,_,rfl,hc,Qo⟩
     ·simp only [y8,List.set_cons_zero,au];exact ⟨_,_,rfl,hx,Bc⟩
    | false=>
     simp only [Be] at h
     cases hm:Cs vk vx ks vs with
     | none=>simp [hm] at h
     | some q=>
      obtain ⟨k1,v1⟩:=q;simp only [hm,yc,yk] at h;obtain ⟨rfl,rfl⟩:=h;rcases ac5 hk hx hd ks vs es (i+1) k1 v1 Qo Bc hm with ⟨g1,g2,g3⟩ | ⟨j,e0,g1,g2,g3,g4,g5⟩
      ·refine .inl ⟨by simp [Instr.findNow,hs,g1],?_,?_⟩
       ·simp only [y8,yW,au];exact ⟨_,_,rfl,hc,g2⟩
       ·simp only [y8,yW,au];exact ⟨_,_,rfl,hv,g3⟩
      ·refine .inr ⟨j+1,e0,?_,by simpa using g2,g3,?_,?_⟩
       ·simp only [Instr.findNow,hs,g1]
        grind
       ·simp only [y8,au];exact ⟨_,_,rfl,hc,g4⟩
       ·simp only [y8,List.set_cons_succ,au];exact ⟨_,_,rfl,hv,g5⟩
def Fo (w:yh) (g:Nat) (o:ybs):One w {w with heap:=w.heap.setIfInBounds g o} g:=
 ⟨rfl,rfl,rfl,by simp,fun b hb=>by simp [Array.getElem?_setIfInBounds_ne (fun e=>hb e.symm)]⟩
def M3 {g:Nat} {o q:ybs} (h:w.heap[g]? =some q):({w with heap:=w.heap.setIfInBounds g o}:yh).heap[g]? =some o:=by grind
def abW {o:yY} {t kt e:yv} {x k y:xB} {kk:Nat} {v:AV} {ao:Hp} {bj:Nat} (hH:gl O H) (ht:cF O m S w tm a.tmps) (hh:bg O m S w hp ct)
  (ho:o.op= .mapUpdate t x k y\/o.op= .insert t x k y) (hu:O.P.underlying t=some (.map kt e)) (zJ:VE.keyOf O.P kt=some kk) (hv:dG tm hp ct (.qF kk (aV H x) (aV H k) (aV H y))=some (v,ao,bj)):AH O m S w a hp ct o v ao bj:=by
 simp only [dG] at hv;have rx:=cQ hH ht x;cases hx:aC tm (aV H x)<;>rw [hx] at hv rx<;>simp only [reduceCtorEq] at hv
 rename_i id;simp only [aj] at rx;obtain ⟨p,hm,ex⟩:=rx
 split at hv
 case h_2=>cases hv
 rename_i ks vs hg
 cases hc:Ak kk (aC tm (aV H k)) with
 | false=>simp [hc] at hv
 | true=>
  simp only [hc,Bool.not_true,yD] at hv
  cases bI:Cs (aC tm (aV H k)) (aC tm (aV H y)) ks vs with
  | none=>simp [bI] at hv
  | some q=>
   obtain ⟨lD,eK⟩:=q;simp only [bI,yc,yk] at hv;obtain ⟨rfl,rfl,rfl⟩:=hv;obtain ⟨d,jW,et,LD⟩:=Z4 zJ hc;obtain ⟨p',es,clock,g1,g2,g3,g4,g5,g6⟩:=hh.obj id _ _ hg hm;rw [hm] at g1;injection g1 with g1
   subst g1;have aw1:=ac5 (d:=d) (cQ hH ht k) (cQ hH ht y) LD ks vs es.toList 0 lD eK g3 g4 bI
   have fin:∀(EJ:Array uB) (c':Nat),(Instr.mapUpdate t (a.eval x) (a.eval k) (a.eval y)).run O.P w= .ok () {w with heap:=w.heap.setIfInBounds p.b (.map EJ c')}->
     au O.ai m S w lD (EJ.toList.map (·.key))->au O.ai m S w eK (EJ.toList.map (·.val))->AH O m S w a hp ct o (.aw []) (bf hp id (.mp true lD eK)) ct:=by
    intro EJ c' fW h1 h2
    have bh:gI S w {w with heap:=w.heap.setIfInBounds p.b (.map EJ c')}:=fun b hb=>(Fo w p.b _).other b (fun e=>g5 rfl (e▸hb))
    have pf:fV O m S {w with heap:=w.heap.setIfInBounds p.b (.map EJ c')} id (.mp true lD eK):=
     ⟨p,EJ,c',hm,M3 g2,iB (fun _ _ h=>h) (fun _ h=>h) bh _ _ h1,iB (fun _ _ h=>h) (fun _ h=>h) bh _ _ h2,fun _=>g5 rfl,by simp⟩
    obtain ⟨e1,e2⟩:=Jv hh hg hm (g5 rfl) (Fo w p.b _) pf (fun r hr=>by rw [g2] at hr;cases hr);refine ⟨.skip,undef,_,m,S,?_,.inr ⟨rfl,rfl⟩,e1,by simp [aj,au,undef],dW.refl,e2⟩;rcases ho with ho | ho<;>simp [execOp,ho,fW]
   have rT:=MQ (P:=O.P) (w:=w) jW et false (a.eval k);rcases aw1 with ⟨h1,h2,h3⟩ | ⟨j,e0,h1,h2,h3,h4,h5⟩
   ·refine fin (es.push ⟨a.eval k,a.eval y,clock⟩) (clock+1) ?_ (by simpa using h2) (by simpa using h3);rw [ex];simp [Instr.mapUpdate,run_underlying hu,MapKept.run_getObj_map g2,rT,Instr.findKey,run_underlying jW,h1,MapKept.run_setObj_map _ g2]
   ·have hj:es[j]? =some e0:=by simp_all
    simp only [yd] at h1;have ahr:=Z8 h3
    refine fin (es.modify j fun e=>{e with key:=a.eval k,val:=a.eval y}) clock ?_ ?_ ?_
    ·rw [ex];have WZ:Instr.sameBits 10000 (a.eval k) (a.eval k)=true:=by have:=sameBits_self h3 10000;rwa [<-ahr] at this
     simp [Instr.mapUpdate,run_underlying hu,MapKept.run_getObj_map g2,rT,Instr.findKey,run_underlying jW,h1,MapKept.run_setObj_map _ g2,hj,Instr.keyThatStays,WZ,ahr.symm]
    ·have:(es.modify j fun e=>{e with key:=a.eval k,val:=a.eval y}).toList.map (·.key)=es.toList.map (·.key):=by
      apply yas
      grind
     grind
    ·have:(es.modify j fun e=>{e with key:=a.eval k,val:=a.eval y}).toList.map (·.val)=(es.toList.map (·.val)).set j (a.eval y):=by
      apply yas
      grind
     grind
def aqr (t:ByteArray) (i:Nat):(t.get! i).toNat=(t.data.toList.map yX).getD i 0:=by
 have:t.get! i=t.data[i]! :=by cases t;rfl
 rw [this];by_cases h:i<t.data.size
 ·grind
 ·simp only [Array.getElem!_eq_getD,Array.getD_eq_getD_getElem?,List.getD_eq_getElem?_getD,List.getElem?_map,Array.getElem?_toList];rw [Array.getElem?_eq_none (by omega)];rfl
def al7 (t:ByteArray) (i:Nat):decodeL (t.data.toList.map yX) i=Utf8.decode t i:=by
 have fk:(t.data.toList.map yX).length=t.size:=by simp
 simp only [decodeL,Utf8.decode,aqr,fk]
def an3 {o:yY} {x:xB} {v:AV} {ao:Hp} {bj:Nat} (hH:gl O H) (ht:cF O m S w tm a.tmps) (hh:bg O m S w hp ct)
  (ho:o.op= .next x true) (hv:dG tm hp ct (.qH (aV H x))=some (v,ao,bj)):AH O m S w a hp ct o v ao bj:=by
 simp only [dG] at hv;have rx:=cQ hH ht x;cases hx:aC tm (aV H x)<;>rw [hx] at hv rx<;>simp only [reduceCtorEq] at hv
 rename_i id;simp only [aj] at rx;obtain ⟨p,hm,ex⟩:=rx
 split at hv
 case h_2=>cases hv
 rename_i s pos hg;obtain ⟨p',t,g1,g2,g3,g4⟩:=hh.obj id _ _ hg hm;rw [hm] at g1;injection g1 with g1
 subst g1;have ap:(getObj p.b).run O.P w= .ok (.stringIter t pos) w:=by simp [getObj,Sem.run,g2]
 have hlen:s.length=t.size:=by rw [<-g3];simp
 cases hc:yJ pos s.length with
 | false=>
  rw [hc] at hv;simp only [yD,yc,yk] at hv;obtain ⟨rfl,rfl,rfl⟩:=hv;have bm:¬pos<t.size:=by
   intro h
   have:yJ pos s.length=true:=by simp [yJ];omega
   grind
  refine ⟨.value (.tuple #[.bool false]),.tuple #[.bool false],w,m,S,?_,.inl rfl,hh,by simp [aj,au],dW.refl,cG.refl⟩;simp [execOp,ho,ex,Instr.next,ap,bm]
 | true=>
  rw [hc] at hv;simp only [ym] at hv;have bm:pos<t.size:=by
   simp_all
  cases hdc:decodeL s pos with | mk c wd=>
  rw [hdc] at hv;simp only [yc,yk] at hv;obtain ⟨rfl,rfl,rfl⟩:=hv;have hd:Utf8.decode t pos=(c,wd):=by rw [<-al7,g3,hdc]
  have pf:fV O m S {w with heap:=w.heap.setIfInBounds p.b (.stringIter t (pos+wd))} id (.si s (pos+wd)):=⟨p,t,hm,M3 g2,g3,g4⟩;obtain ⟨e1,e2⟩:=Jv hh hg hm g4 (Fo w p.b _) pf (fun r hr=>by rw [g2] at hr;cases hr);refine ⟨.value (.tuple #[.bool true,goInt pos,.int .i32 c]),_,_,m,S,?_,.inl rfl,e1,by simp [aj,au,goInt],dW.refl,e2⟩
  have bf:(setObj p.b (.stringIter t (pos+wd))).run O.P w= .ok () {w with heap:=w.heap.setIfInBounds p.b (.stringIter t (pos+wd))}:=by simp [setObj,Sem.run,g2]
  simp [execOp,ho,ex,Instr.next,ap,bm,hd,bf]
end
end
section
open Go
def Jl {hp:Hp} {id i:Nat}:ap (dL hp id) i=if id=i then none else ap hp i:=by
 induction hp with
 | nil=>simp [dL,ap]
 | cons x r ih=>
  obtain ⟨j,q⟩:=x;simp only [dL];by_cases hj:j=id
  ·subst hj;simp only [xq,ym,ih,ap];by_cases hi:j=i
   ·grind
   ·have:yx j i=false:=by
     cases hq:yx j i with
     | false=>rfl
     | true=>exact absurd (yo hq) hi
    grind
  ·have hb:yx j id=false:=by
    cases hq:yx j id with
    | false=>rfl
    | true=>exact absurd (yo hq) hj
   simp only [hb,yD];rw [show ap ((j,q)::dL r id) i=bif yx j i then some q else ap (dL r id) i from rfl,ih];by_cases hi:j=i
   ·subst hi
    have:¬id=j:=fun h=>hj h.symm
    simp [xq,this,ap]
   ·have zL:yx j i=false:=by
     cases hq:yx j i with
     | false=>rfl
     | true=>exact absurd (yo hq) hi
    simp [zL,ap]
section
variable {O:bD} {H:Hint} {m:Mp} {S:Nat->Prop} {w:yh} {tm:Env} {a:Act} {hp:Hp} {ct:Nat}
def Src (P:y7) (w:yh) (size n:Nat) (news:List yf) (x:yf):Prop:=
 (∀w',(Builtin.lenOf x).run P w'= .ok n w')/\news.length=n*size/\
 ∀w',w'.heap=w.heap->∀k,k<=n->(Builtin.firstCells size k x).run P w'= .ok (news.take (k*size)).toArray w'
def Jm {P:y7} {size n c:Nat} {b:Addr} {news:List yf} (hl:news.length=n*size) (hc:∀j u,news[j]? =some u->w.cell? (b.add j)=some u):
  Src P w size n news (.slice (some b) n c):=by
 refine ⟨fun w'=>by simp [Builtin.lenOf],hl,fun w' hw k hk=>?_⟩;have hle:k*size<=news.length:=by rw [hl];exact y5 _ hk
 refine run_firstCells_some (P:=P) w' size k b n c (news.take (k*size)) (by rw [yS];omega) (fun j v hv=>?_);rw [List.getElem?_take] at hv
 split at hv
 ·have:=hc j v hv
  simpa [World.cell?,hw] using this
 ·cases hv
def ac6 {P:y7} {size:Nat}:Src P w size 0 [] (.slice none 0 0):=
 ⟨fun w'=>by simp [Builtin.lenOf],by simp,fun w' _ k hk=>by simp [Builtin.firstCells]⟩
def ak7 (s:ByteArray) (k:Nat):(s.extract 0 k).data.map (fun b=>Value.int .u8 b.toNat)=((s.data.toList.map fun b=>Value.int .u8 (b.toNat:Int)).take k).toArray:=by
 have:(s.extract 0 k).data=s.data.extract 0 k:=by simp
 grind
def aqs {P:y7} {s:ByteArray}:Src P w 1 s.size (s.data.toList.map fun b=>Value.int .u8 (b.toNat:Int)) (.string s):=by
 refine ⟨fun w'=>by simp [Builtin.lenOf],by simp,fun w' _ k hk=>?_⟩;simp only [Builtin.firstCells,Sem.run_pure,Nat.mul_one];rw [ak7]
def ZG {ai:Nat->Nat}:∀l:List UInt8,au ai m S w (NX (l.map yX)) (l.map fun b=>Value.int .u8 (b.toNat:Int))
 | []=>by simp [NX,au]
 | b::r=>by
  exact ⟨_,_,rfl,by simp [aj],ZG r⟩
def Z9 {size n:Nat} {vx:AV} {x:yf} {cs:List AV} (hh:bg O m S w hp ct) (hx:aj O.ai m S w vx x) (h:ru hp size vx=some (n,cs)):
  ∃us,au O.ai m S w cs us/\Src O.P w size n us x:=by
 cases vx<;>simp only [ru,reduceCtorEq] at h
 case ae=>
  obtain ⟨rfl,rfl⟩:=h;subst hx;exact ⟨[],by simp [au],ac6⟩
 case aO ex n' dZ=>
  cases hc:yx dZ.length (n'*size) with
  | false=>rw [hc] at h;cases h
  | true=>
   rw [hc] at h;obtain ⟨rfl,rfl⟩:=h;have hl:=yo hc;rcases hx with ⟨b,o,c,rfl,h1,h2,h3,h4,h5⟩ | ⟨ad,rfl,rfl,rfl⟩
   ·obtain ⟨us,g1,g2,g3⟩:=Aa _ b o h5;exact ⟨us,g1,Jm (by omega) (fun j u hj=>by rw [pR];exact g3 j u hj)⟩
   ·exact ⟨[],by simp [au],Jm (by simp) (fun j u hj=>by simp at hj)⟩
 case ak id o n'=>
  cases hg:ap hp id with
  | none=>simp [hg] at h
  | some ob=>
   cases ob<;>simp only [hg,reduceCtorEq] at h
   rename_i rw pu ex z dZ
   cases hc:yE (o+n'*size) dZ.length with
   | false=>rw [hc] at h;cases h
   | true=>
    rw [hc] at h;simp only [ym,yc,yk] at h;obtain ⟨rfl,rfl⟩:=h;have hl:=yC hc;obtain ⟨p,c,hm,rfl,h1,h2⟩:=hx;have hr:=SX (o:=0) (n:=0) hh hg hm;have dQ:=Dw (n'*size) _ _ _ (sG o _ _ _ hr);obtain ⟨us,g1,g2,g3⟩:=Aa _ p.b (p.o+o) dQ;refine ⟨us,g1,Jm ?_ (fun j u hj=>by rw [pR];exact g3 j u hj)⟩
    grind
def al8 {size n:Nat} {vx:AV} {x:yf} {cs:List AV} (hh:bg O m S w hp ct) (hx:aj O.ai m S w vx x) (h:Ar hp size vx=some (n,cs)):
  ∃us,au O.ai m S w cs us/\Src O.P w size n us x:=by
 cases vx<;>try exact Z9 hh hx h
 simp only [Ar] at h
 cases hc:yx size 1 with
 | false=>rw [hc] at h;cases h
 | true=>
  rw [hc] at h;obtain ⟨rfl,rfl⟩:=h
  have:=yo hc
  subst this;obtain ⟨t,rfl,rfl⟩:=hx;refine ⟨_,ZG _,?_⟩
  have:(List.map yX t.data.toList).length=t.size:=by simp
  rw [this];exact aqs
def ako {P:y7} {t u ty e:yv} {i:yci} (ht:P.underlying t=some (.slice e)) (hu:(∃e',P.underlying u=some (.slice e'))\/P.underlying u=some .string) (hi:P.info? e=some i)
  {g o iW rI:Nat} {cur:Array yf} {te:yv} (hg:w.heap[g]? =some (.cells cur te (0,0))) {x:yf} {n:Nat} {news:List yf} (hs:Src P w i.size n news x) (h1:∀u∈news,u.oneCell'=true)
  (Gp:iW+n<=rI) (Vo:o+iW*i.size+news.length<=cur.size):
  (Builtin.append_ #[t,u] ty #[.slice (some ⟨g,o,none⟩) iW rI,x]).run P w=
   .ok (.slice (some ⟨g,o,none⟩) (iW+n) rI) (w.setRow g (cur.toList.take (o+iW*i.size)++news++cur.toList.drop (o+iW*i.size+news.length)).toArray):=by
 obtain ⟨oh,qP,W0⟩:=hs;have hf:=W0 w rfl n (yB _);rw [yK (by omega)] at hf;have bh:=run_storeCells_at P g (o+iW*i.size) te news 0 cur w hg (by omega) h1;rcases hu with ⟨e',hd⟩ | hd<;>
  simp [Builtin.append_,run_underlying ht,run_underlying hd,uj,typeInfo,hi,oh,Gp,hf,pR,bh]
def RS {P:y7} {t u ty e:yv} {i:yci} {z:yf} (ht:P.underlying t=some (.slice e)) (hu:(∃e',P.underlying u=some (.slice e'))\/P.underlying u=some .string) (hi:P.info? e=some i) (hz:i.zero=some z)
  {s:yf} {base:Option Addr} {iW rI:Nat} (es:s= .slice base iW rI) {n9:List yf} (ho:Src P w i.size iW n9 s) {x:yf} {n:Nat} {news:List yf} (hs:Src P w i.size n news x)
  (hg:rI<iW+n) (Qq:iW+n<=1099511627776) (WY:(iW+n)*i.bytes<=1099511627776):
  (Builtin.append_ #[t,u] ty #[s,x]).run P w=
   .ok (.slice (some ⟨w.heap.size,0,none⟩) (iW+n) (grownCap w (iW+n) rI e))
    (w.drew.alloc (.cells ((n9++news).toArray++Builtin.zeroCells z.cells (grownCap w (iW+n) rI e-(iW+n))) e)):=by
 obtain ⟨oh,qP,W0⟩:=hs;obtain ⟨ho1,W1,ho3⟩:=ho;have hf:=W0 w.drew rfl n (yB _);rw [yK (by omega)] at hf;have hfo:=ho3 w.drew rfl iW (yB _);have hn:¬(iW+n<=rI):=by omega
 have aw2:¬(9223372036854775807<((iW:Int)+(n:Int))):=by omega
 have Vo:=growslice_fits (need:=iW+n) (old:=rI) (bytes:=i.bytes) hg (by omega);have aw3:¬(281474976710656<Builtin.nextslicecap (iW+n) rI*i.bytes):=by omega
 subst es;rcases hu with ⟨e',hd⟩ | hd
 all_goals
  simp [Builtin.append_,run_underlying ht,run_underlying hd,uj,typeInfo,zeroValue,hi,hz,oh,hn,aw2,aw3,Question.forced,hf,hfo,newRow,askRoom,grownCap]
  grind
def Sw {e:yv} {z:yf} {sz need cap:Nat} {cs:List AV} {us:List yf} (hh:bg O m S w hp ct) (hr:au O.ai m S w cs us) (hl:us.length=need*sz) (hz:z.cells.size=sz)
  (OD:Bool) (hpp:OD=true->aK cs=true) (hc:need<=cap):
  let w':=w.drew.alloc (.cells (us.toArray++Builtin.zeroCells z.cells (cap-need)) e)
  let p:Pl:=⟨w.heap.size,0,cap*sz,sz⟩
  ∀m',dW m m'->m' ct=some p->fV O m' S w' ct (.cells true OD false sz cs):=by
 intro w' p m' hm hi;have bh:gI S w w':=fun b hb=>by
  have:=hh.slt b hb
  exact RowKit.Below.heap_alloc w.drew _ b (by simpa using this)
 have mH:w'.heap[w.heap.size]? =some (.cells (us.toArray++Builtin.zeroCells z.cells (cap-need)) e (0,0)):=heap_alloc_new w.drew _;have jg:=jo _ _ hr;refine ⟨p,_,e,hi,mH,rfl,?_,?_,by simp,?_,hpp,?_,by simp⟩
 ·show cs.length<=cap*sz
  rw [<-jg,hl];exact y5 _ hc
 ·show 0+cap*sz<=_
  rw [Array.size_append,uH,size_zeroCells,hz,hl,<-wZ]
  grind
 ·refine Ss mH cs us 0 (iB hm (fun _ h=>h) bh _ _ hr) (fun j u hj=>?_)
  grind
 ·intro _ hS
  have:=hh.slt _ hS
  grind
def aka (hh:bg O m S w hp ct) (g:ybs):gI S w (w.drew.alloc g):=fun b hb=>by
 have:=hh.slt b hb
 exact RowKit.Below.heap_alloc w.drew _ b (by simpa using this)
def Sx (hh:bg O m S w hp ct) {hp0:Hp} {g:ybs} {p:Pl} {o:Obj} (Pk:∀i q,ap hp0 i=some q->ap hp i=some q) (hb:p.b=w.heap.size)
  (ho:∀m',dW m m'->m' ct=some p->fV O m' S (w.drew.alloc g) ct o):
  bg O (fX m ct p) S (w.drew.alloc g) ((ct,o)::hp0) (ct+1)/\cG m S w hp (fX m ct p) S (w.drew.alloc g) ((ct,o)::hp0) ct:=by
 have hn:m ct=none:=by
  cases h:m ct with
  | none=>rfl
  | some q=>have:=hh.lt _ _ h;omega
 have hle:=lK hn (p:=p);have bh:=aka hh g;have hold:∀b,b<w.heap.size->(w.drew.alloc g).heap[b]? =w.heap[b]? :=fun b hb=>RowKit.Below.heap_alloc w.drew _ b (by simpa using hb)
 have fk:(w.drew.alloc g).heap.size=w.heap.size+1:=by simp
 have iN:∀i q,ap ((ct,o)::hp0) i=some q->i≠ct->ap hp i=some q:=fun i q h hi=>by
  rw [iC,yr (fun e=>hi e.symm)] at h
  grind
 refine ⟨⟨?_,?_,?_,?_,?_,?_,?_,?_,fun i q hq=>(by
  by_cases hc:i=ct
  ·omega
  ·have:=hh.bm _ _ (iN i q hq hc);omega)⟩,⟨rfl,rfl,rfl,by omega,?_,fun _ h=>h,fun b hb=>bh b hb,fun b hb=> .inl hb,?_,fun i q _ h=>hle i q h,fun b r hb=>⟨r,(hold b (Array.getElem?_eq_some_iff.1 hb).1).trans hb⟩⟩⟩
 ·intro i q pi hi bX;by_cases hc:i=ct
  ·subst hc;rw [iC] at hi;simp only [yV,yc] at hi;subst hi;exact ho _ hle eT
  ·rw [eS hc] at bX;exact sI hle (fun _ h=>h) bh (fun q' cz=>hold _ (hh.blt i q' cz)) (fun _ _ h=>h) (hh.obj i q pi (iN i q hi hc) bX)
 ·intro i q bX;by_cases hc:i=ct
  ·omega
  ·rw [eS hc] at bX;have:=hh.lt i q bX;omega
 ·intro i j oi oj pi pj hi hj bX gT e;by_cases ci:i=ct
  ·by_cases cj:j=ct
   ·grind
   ·subst ci;rw [eT] at bX;rw [eS cj] at gT;injection bX with bX
    subst bX
    have:=hh.blt j pj gT
    omega
  ·rw [eS ci] at bX;by_cases cj:j=ct
   ·subst cj;rw [eT] at gT;injection gT with gT
    subst gT
    have:=hh.blt i pi bX
    omega
   ·rw [eS cj] at gT;exact hh.inj i j oi oj pi pj (iN i oi hi ci) (iN j oj hj cj) bX gT e
 ·intro b hb;have:=hh.slt b hb;omega
 ·intro i q bX;by_cases hc:i=ct
  ·subst hc;rw [eT] at bX;injection bX with bX
   subst bX;omega
  ·rw [eS hc] at bX;have:=hh.blt i q bX;omega
 ·intro i q bX;have h0:=hh.gK;by_cases hc:i=ct
  ·subst hc;rw [eT] at bX;injection bX with bX
   subst bX;omega
  ·rw [eS hc] at bX;exact hh.low i q bX
 ·intro b hb;have h0:=hh.gK;exact (hold b (by omega)).trans (hh.mG b hb)
 ·have h0:=hh.gK;omega
 ·intro b hb _;exact hold b hb
 ·rintro b ⟨i,q,pi,h1,h2,h3⟩;by_cases hc:i=ct
  ·subst hc;rw [eT] at h2;injection h2 with h2
   subst h2;exact .inr (by omega)
  ·rw [eS hc] at h2;exact .inl ⟨i,q,pi,iN i q h1 hc,h2,h3⟩
def al9 (hh:bg O m S w hp ct) {id:Nat} {o o':Obj} {p p':Pl} {w':yh} (hg:ap hp id=some o) (hm:m id=some p) (hn:¬S p.b) (hw:One w w' p.b) (hk:∀r:uz,w.heap[p.b]? =some (.loop r)->∃r':uz,w'.heap[p.b]? =some (.loop r')) (hb:p'.b=p.b)
  (ho:∀m',dW m m'->m' ct=some p'->fV O m' S w' ct o'):
  bg O (fX m ct p') S w' ((ct,o')::dL hp id) (ct+1)/\cG m S w hp (fX m ct p') S w' ((ct,o')::dL hp id) ct:=by
 have lE:m ct=none:=by
  cases h:m ct with
  | none=>rfl
  | some q=>have:=hh.lt _ _ h;omega
 have hle:=lK lE (p:=p');have bh:gI S w w':=fun b hb=>hw.other b (fun e=>hn (e▸hb))
 have iN:∀i q,ap ((ct,o')::dL hp id) i=some q->i≠ct->ap hp i=some q/\i≠id:=fun i q h hi=>by
  rw [iC,yr (fun e=>hi e.symm),Jl] at h
  grind
 have ahs:∀i q pi,ap hp i=some q->i≠id->m i=some pi->pi.b≠p.b:=fun i q pi h hi bX e=>hi (hh.inj i id q o pi p h hg bX hm e)
 refine ⟨⟨?_,?_,?_,?_,?_,?_,?_,?_,fun i q hq=>(by
  by_cases hc:i=ct
  ·omega
  ·have:=hh.bm _ _ (iN i q hq hc).1;omega)⟩,⟨hw.os,hw.tape,hw.output,by rw [hw.size];exact yB _,?_,fun _ h=>h,fun b hb=>bh b hb,fun b hb=> .inl hb,?_,fun i q _ h=>hle i q h,fun b r hb=>(by
  by_cases hc:b=p.b
  ·grind
  ·exact ⟨r,(hw.other b hc).trans hb⟩)⟩⟩
 ·intro i q pi hi bX;by_cases hc:i=ct
  ·subst hc;rw [iC] at hi;simp only [yV,yc] at hi;subst hi;exact ho _ hle eT
  ·rw [eS hc] at bX;obtain ⟨h1,h2⟩:=iN i q hi hc;exact sI hle (fun _ h=>h) bh (fun q' cz=>hw.other _ (ahs i q q' h1 h2 cz)) (fun _ _ h=>h) (hh.obj i q pi h1 bX)
 ·intro i q bX;by_cases hc:i=ct
  ·omega
  ·rw [eS hc] at bX;have:=hh.lt i q bX;omega
 ·intro i j oi oj pi pj hi hj bX gT e;by_cases ci:i=ct
  ·by_cases cj:j=ct
   ·grind
   ·subst ci;rw [eT] at bX;rw [eS cj] at gT
    grind
  ·rw [eS ci] at bX;obtain ⟨h1,h2⟩:=iN i oi hi ci;by_cases cj:j=ct
   ·subst cj;rw [eT] at gT;injection gT with gT
    subst gT;exact (ahs i oi pi h1 h2 bX (by rw [e,hb])).elim
   ·rw [eS cj] at gT;exact hh.inj i j oi oj pi pj h1 (iN j oj hj cj).1 bX gT e
 ·intro b hb;rw [hw.size];exact hh.slt b hb
 ·intro i q bX;rw [hw.size];by_cases hc:i=ct
  ·subst hc;rw [eT] at bX;injection bX with bX
   subst bX;rw [hb];exact hh.blt id p hm
  ·rw [eS hc] at bX;exact hh.blt i q bX
 ·intro i q bX;by_cases hc:i=ct
  ·subst hc;rw [eT] at bX;injection bX with bX
   subst bX;rw [hb];exact hh.low id p hm
  ·rw [eS hc] at bX;exact hh.low i q bX
 ·intro b hb
  rw [hw.other b (fun e=>by have:=hh.low id p hm;omega)];exact hh.mG b hb
 ·rw [hw.size];exact hh.gK
 ·intro b _ dl;exact hw.other b (fun e=>dl (e▸JQ hg hm))
 ·rintro b ⟨i,q,pi,h1,h2,h3⟩;by_cases hc:i=ct
  ·subst hc;rw [eT] at h2;injection h2 with h2
   subst h2;exact .inl ⟨id,o,p,hg,hm,by rw [<-h3,hb]⟩
  ·rw [eS hc] at h2;exact .inl ⟨i,q,pi,(iN i q h1 hc).1,h2,h3⟩
def aqt {P:y7} {e:yv} {s by':Nat} {z:AV} (hs:da P e=some s) (hb:CR P e=some by') (hz:nY P e=some z):
  ∃ti zv,P.info? e=some ti/\ti.size=s/\ti.bytes=by'/\ti.zero=some zv/\z=fe zv:=by
 unfold da at hs;unfold CR at hb;unfold nY at hz
 cases hi:P.info? e with
 | none=>simp [hi] at hs
 | some ti=>
  simp only [hi,yc] at hs hb hz
  cases fZ:ti.zero with
  | none=>simp [fZ] at hz
  | some zv=>
   grind
def Jw {o:yY} {v:AV} {u:yf} {w':yh} {m':Mp} {S':Nat->Prop} {ao:Hp} {bj:Nat} (h1:(execOp a.eval o).run O.P w= .ok (.value u) w') (h2:bg O m' S' w' ao bj) (h3:aj O.ai m' S' w' v u)
  (h4:dW m m') (h5:cG m S w hp m' S' w' ao ct):AH O m S w a hp ct o v ao bj:=⟨_,u,w',m',S',h1,.inl rfl,h2,h3,h4,h5⟩
def an4 {o:yY} {b':yv} {t u e:yv} {sz by':Nat} {z:AV} {x y:xB} {v:AV} {ao:Hp} {bj:Nat} (hH:gl O H) (ht:cF O m S w tm a.tmps) (hh:bg O m S w hp ct)
  (fW:(execOp a.eval o).run O.P w=((do pure (.value (<-Builtin.append_ #[t,u] b' #[a.eval x,a.eval y])):Sem yaU)).run O.P w)
  (CW:O.P.underlying t=some (.slice e)) (hu:(∃e',O.P.underlying u=some (.slice e'))\/O.P.underlying u=some .string) (hs:da O.P e=some sz) (hb:CR O.P e=some by') (hz:nY O.P e=some z) (Bg:(cellsOf z).length=sz)
  (hv:dG tm hp ct (.dV sz by' (aV H x) (aV H y))=some (v,ao,bj)):AH O m S w a hp ct o v ao bj:=by
 simp only [dG] at hv;obtain ⟨ti,zv,Bi,rfl,rfl,W2,rfl⟩:=aqt hs hb hz;have aR:∀u' w',(Builtin.append_ #[t,u] b' #[a.eval x,a.eval y]).run O.P w= .ok u' w'->(execOp a.eval o).run O.P w= .ok (.value u') w':=fun u' w' h=>by
  rw [fW,Sem.run_bind,h];rfl
 have sZ:m ct=none:=by
  cases h:m ct with
  | none=>rfl
  | some q=>have:=hh.lt _ _ h;omega
 have LL:zv.cells.size=ti.size:=by
  have:=jo _ _ (Fg (ai:=O.ai) (m:=m) (S:=S) (w:=w) zv)
  rw [<-Bg,<-this];simp
 cases Ef:Ar hp ti.size (aC tm (aV H y)) with
 | none=>simp [Ef] at hv
 | some q=>
  obtain ⟨n,new⟩:=q;simp only [Ef] at hv;obtain ⟨news,gE,eQ⟩:=al8 hh (cQ hH ht y) Ef;have Qr:=jo _ _ gE;have rx:=cQ hH ht x
  cases hx:aC tm (aV H x) with
  | ae=>
   rw [hx] at hv rx;simp only at hv;simp only [aj] at rx
   cases h0:yx n 0 with
   | true=>
    rw [h0] at hv;simp only [ym,yc,yk] at hv;obtain ⟨rfl,rfl,rfl⟩:=hv;have mP:=yo h0;subst mP;have UT:news=[]:=yH (by rw [eQ.2.1];simp)
    subst UT;have hf:=eQ.2.2 w rfl 0 (yB _);have mM:=eQ.1 w;refine ⟨.value (.slice none 0 0),.slice none 0 0,w,m,S,?_,.inl rfl,hh,by simp [aj],dW.refl,cG.refl⟩;rw [fW,rx];rcases hu with ⟨e',hu⟩ | hu<;>
     simp [Builtin.append_,run_underlying CW,run_underlying hu,uj,typeInfo,Bi,mM,hf]
   | false=>
    rw [h0] at hv;simp only [yD] at hv
    cases hc:(yE n room&&(yE (n*ti.bytes) room&&yJ 0 ti.size)) with
    | false=>rw [hc] at hv;cases hv
    | true=>
     rw [hc] at hv;simp only [ym,yc,yk] at hv;obtain ⟨rfl,rfl,rfl⟩:=hv;simp only [yg] at hc;have c1:=yC hc.1;have c2:=yC hc.2.1;simp only [room] at c1 c2;have mP:0<n:=by
      rcases xu n with h | h
      ·subst h;simp at h0
      ·exact h
     have hr:=RS (P:=O.P) (ty:=b') (w:=w) CW hu Bi W2 (s:= .slice none 0 0) rfl (ac6 (P:=O.P) (size:=ti.size)) eQ (by omega) (by omega) (by simpa using c2);simp only [yd,List.nil_append] at hr;have mQ:=grownCap_ge w n 0 e;have mH:=Sw (e:=e) (z:=zv) (cap:=grownCap w n 0 e) hh gE (need:=n) (sz:=ti.size) eQ.2.1 LL (aK new) (fun h=>h) mQ;obtain ⟨k1,k2⟩:=Sx hh (hp0:=hp) (p:=⟨w.heap.size,0,grownCap w n 0 e*ti.size,ti.size⟩) (fun _ _ h=>h) rfl mH;exact Jw (aR _ _ (by rw [rx];exact hr)) k1 (by simp only [aj];exact ⟨_,_,eT,rfl,mQ,by simp⟩) (lK sZ) k2
  | aO ex k cs=>
   rw [hx] at hv rx
   cases ex with
   | false=>simp at hv
   | true=>
    simp only at hv;have rx0:=rx;simp only [aj] at rx;have rx1:∃ad n9,a.eval x= .slice (some ad) k k/\au O.ai m S w cs n9/\n9.length=cs.length/\(∀(j:Nat) (u:yf),n9[j]? =some u->w.cell? (ad.add j)=some u)/\aK cs=true:=by
     rcases rx with ⟨bb,oo,c,ex,h1,h2,h3,h4,h5⟩ | ⟨ad,ex,rfl,rfl⟩
     ·have rT:c=k:=h2 (by trivial);subst rT;obtain ⟨n9,g1,g2,g3⟩:=Aa cs bb oo h5;exact ⟨_,n9,ex,g1,g2,fun j u hj=>by rw [pR];exact g3 j u hj,h4⟩
     ·exact ⟨ad,[],ex,by simp [au],rfl,fun j u hj=>by simp at hj,rfl⟩
    obtain ⟨ad,n9,ex,g1,g2,g3,h4⟩:=rx1
    cases h0:yx n 0 with
    | true=>
     rw [h0] at hv;simp only [ym,yc,yk] at hv;obtain ⟨rfl,rfl,rfl⟩:=hv;have mP:=yo h0;subst mP;have UT:news=[]:=yH (by rw [eQ.2.1];simp)
     subst UT;have hf:=eQ.2.2 w rfl 0 (yB _);have mM:=eQ.1 w;refine ⟨.value (a.eval x),a.eval x,w,m,S,?_,.inl rfl,hh,rx0,dW.refl,cG.refl⟩;rw [fW,ex];rcases hu with ⟨e',hu⟩ | hu<;>
      simp [Builtin.append_,run_underlying CW,run_underlying hu,uj,typeInfo,Bi,mM,hf,storeCells]
    | false=>
     rw [h0] at hv;simp only [yD] at hv
     cases hc:(yE (k+n) room&&(yE ((k+n)*ti.bytes) room&&(yx cs.length (k*ti.size)&&yJ 0 ti.size))) with
     | false=>rw [hc] at hv;cases hv
     | true=>
      rw [hc] at hv;simp only [ym,yc,yk] at hv;obtain ⟨rfl,rfl,rfl⟩:=hv;simp only [yg] at hc;have c1:=yC hc.1;have c2:=yC hc.2.1;have c3:=yo hc.2.2.1;simp only [room] at c1 c2;have mP:0<n:=by
       rcases xu n with h | h
       ·subst h;simp at h0
       ·exact h
      have W3:Src O.P w ti.size k n9 (.slice (some ad) k k):=Jm (by omega) g3;have hr:=RS (P:=O.P) (ty:=b') (w:=w) CW hu Bi W2 rfl W3 eQ (by omega) c1 c2;have mQ:=grownCap_ge w (k+n) k e;have mH:=Sw (e:=e) (z:=zv) (cap:=grownCap w (k+n) k e) hh (mW g1 gE) (need:=k+n) (sz:=ti.size) (by rw [yO,g2,c3,eQ.2.1,wZ]) LL (aK cs&&aK new)
       (fun h=>by simp only [yg] at h;exact Fh h.1 h.2) mQ
      obtain ⟨k1,k2⟩:=Sx hh (hp0:=hp) (p:=⟨w.heap.size,0,grownCap w (k+n) k e*ti.size,ti.size⟩) (fun _ _ h=>h) rfl mH;exact Jw (aR _ _ (by rw [ex];exact hr)) k1 (by simp only [aj];exact ⟨_,_,eT,rfl,mQ,by simp⟩) (lK sZ) k2
  | ak id o0 k=>
   rw [hx] at hv rx;simp only at hv;simp only [aj] at rx;obtain ⟨p,c,hm,ex,h1,h2⟩:=rx
   split at hv
   case h_2=>cases hv
   rename_i pu Qp zz cs hg
   cases hc:(yx zz ti.size&&(yE (k+n) room&&(yE ((k+n)*ti.bytes) room&&(yE (o0+k*ti.size) cs.length&&(yJ 0 ti.size&&cf new))))) with
   | false=>rw [hc] at hv;cases hv
   | true=>
    rw [hc] at hv;simp only [ym,yc,yk] at hv;obtain ⟨rfl,rfl,rfl⟩:=hv;simp only [yg] at hc;have c0:=yo hc.1;have c1:=yC hc.2.1;have c2:=yC hc.2.2.1;have c3:=yC hc.2.2.2.1;have c4:=hc.2.2.2.2.2;simp only [room] at c1 c2;obtain ⟨p',arr,t',g1,g2,g3,g4,g5,g6,g7,g8,g9,g10⟩:=hh.obj id _ _ hg hm;rw [hm] at g1;injection g1 with g1
    subst g1;subst c0;rw [g3] at h2;have Qs:ck O.ai m S w (slice o0 (k*ti.size) cs) p.b (p.o+o0):=Dw _ _ _ _ (sG _ _ _ _ g7);obtain ⟨n9,f1,f2,f3⟩:=Aa _ _ _ Qs;have aht:(slice o0 (k*ti.size) cs).length=k*ti.size:=by simp only [slice,yS,wA];omega
    have qK:(pu&&aK new)=true->aK (slice o0 (k*ti.size) cs++new)=true:=fun h=>by
     simp only [yg] at h;exact Fh (Du _ (BL _ _ (g8 h.1))) h.2
    by_cases Gp:k+n<=c
    ·have gA:=Nk gE c4;have Vo:p.o+o0+k*ti.size+news.length<=arr.size:=by
      rw [eQ.2.1]
      have:(k+n)*ti.size<=c*ti.size:=y5 _ Gp
      rw [wZ] at this;omega
     have hr:=ako (P:=O.P) (ty:=b') (w:=w) CW hu Bi g2 eQ gA Gp Vo;have ho:∀m',dW m m'->m' ct=some ⟨p.b,p.o+o0,c*ti.size,ti.size⟩->
       fV O m' S (w.setRow p.b (arr.toList.take (p.o+o0+k*ti.size)++news++arr.toList.drop (p.o+o0+k*ti.size+news.length)).toArray) ct
        (.cells true (pu&&aK new) false ti.size (slice o0 (k*ti.size) cs++new)):=by
      intro m' hle hi;have bh:gI S w (w.setRow p.b (arr.toList.take (p.o+o0+k*ti.size)++news++arr.toList.drop (p.o+o0+k*ti.size+news.length)).toArray):=fun b hb=>setRow_other w p.b b _ (fun e=>g9 rfl (e▸hb))
      refine ⟨_,_,t',hi,setRow_heap w p.b arr _ t' _ g2,rfl,?_,?_,by simp,?_,qK,fun _=>g9 rfl,by simp⟩
      ·show (slice o0 (k*ti.size) cs++new).length<=c*ti.size
       rw [yO,aht,<-Qr,eQ.2.1,<-wZ];exact y5 _ Gp
      ·show p.o+o0+c*ti.size<=_
       rw [uH,yO,yO,yS,wA,vK];omega
      ·refine FA _ (n9++news) _ (mW (iB hle (fun _ h=>h) bh _ _ f1) (iB hle (fun _ h=>h) bh _ _ gE)) (fun j u hj=>?_);show World.cell? _ ⟨p.b,p.o+o0+j,none⟩=some u
       simp only [World.cell?,setRow_heap w p.b arr _ t' _ g2,tR,yA,yN];rw [tJ];have e1:(arr.toList.take (p.o+o0+k*ti.size)).length=p.o+o0+k*ti.size:=by rw [yS,vK];omega
       by_cases WX:j<k*ti.size
       ·rw [xU (by omega)] at hj;rw [xo,xU (by omega),vY (by omega)]
        have:=f3 j u hj
        simpa [World.cell?,g2] using this
       ·rw [xF (by omega)] at hj;have hjl:=(List.getElem?_eq_some_iff.1 hj).1;rw [xo,xF (by omega),e1,xU (by omega),show p.o+o0+j-(p.o+o0+k*ti.size)=j-n9.length by omega];exact hj
     obtain ⟨k1,k2⟩:=al9 (p':=⟨p.b,p.o+o0,c*ti.size,ti.size⟩) hh hg hm (g9 rfl) (R9 w p.b _) (fun r hr=>by rw [g2] at hr;cases hr) rfl ho;exact Jw (aR _ _ (by rw [ex];exact hr)) k1 (by simp only [aj];exact ⟨_,c,eT,rfl,Gp,by simp⟩) (lK sZ) k2
    ·have W3:Src O.P w ti.size k n9 (.slice (some ⟨p.b,p.o+o0,none⟩) k c):=Jm (by omega) (fun j u hj=>by rw [pR];exact f3 j u hj)
     have hr:=RS (P:=O.P) (ty:=b') (w:=w) CW hu Bi W2 rfl W3 eQ (by omega) c1 c2;have mQ:=grownCap_ge w (k+n) c e;have mH:=Sw (e:=e) (z:=zv) (cap:=grownCap w (k+n) c e) hh (mW f1 gE) (need:=k+n) (sz:=ti.size) (by rw [yO,f2,aht,eQ.2.1,wZ]) LL (pu&&aK new) qK mQ;obtain ⟨k1,k2⟩:=Sx hh (hp0:=dL hp id) (p:=⟨w.heap.size,0,grownCap w (k+n) c e*ti.size,ti.size⟩) (fun i q h=>by
      rw [Jl] at h;by_cases hi:id=i
      ·simp [hi] at h
      ·simpa only [hi,yN] using h) rfl mH
     exact Jw (aR _ _ (by rw [ex];exact hr)) k1 (by simp only [aj];exact ⟨_,_,eT,rfl,mQ,by simp⟩) (lK sZ) k2
  | _=>rw [hx] at hv;simp at hv
end
end
section
open Go
section
variable {O:bD} {H:Hint} {m:Mp} {S:Nat->Prop} {w:yh} {tm:Env} {a:Act} {hp:Hp} {ct:Nat}
def akz {n:Nat} {cs:List AV} (h:aK cs=true):aK (cs.take n)=true:=Du n h
def Zo:∀(n:Nat) {cs:List AV},cf cs=true->cf (cs.take n)=true
 | 0,_,_=>by simp [cf]
 | n+1,[],_=>by simp [cf]
 | n+1,c::cs,h=>by
  simp only [List.take_succ_cons,cf,yg] at h ⊢;exact ⟨h.1,Zo n h.2⟩
def an5 {o:yY} {b':yv} {t u e:yv} {sz:Nat} {x y:xB} {v:AV} {ao:Hp} {bj:Nat} (hH:gl O H) (ht:cF O m S w tm a.tmps) (hh:bg O m S w hp ct)
  (fW:(execOp a.eval o).run O.P w=((do pure (.value (<-Builtin.copy_ #[t,u] b' #[a.eval x,a.eval y])):Sem yaU)).run O.P w)
  (CW:O.P.underlying t=some (.slice e)) (hs:da O.P e=some sz)
  (hv:dG tm hp ct (.qI sz (aV H x) (aV H y))=some (v,ao,bj)):AH O m S w a hp ct o v ao bj:=by
 simp only [dG] at hv
 cases Ef:ru hp sz (aC tm (aV H y)) with
 | none=>simp [Ef] at hv
 | some q=>
  obtain ⟨n,new⟩:=q;simp only [Ef] at hv;obtain ⟨news,gE,eQ⟩:=Z9 hh (cQ hH ht y) Ef;have Qr:=jo _ _ gE;have rx:=cQ hH ht x;cases hx:aC tm (aV H x)<;>rw [hx] at hv rx<;>simp only [reduceCtorEq] at hv
  rename_i id o0 k;simp only [aj] at rx;obtain ⟨p,c,hm,ex,h1,h2⟩:=rx
  split at hv
  case h_2=>cases hv
  rename_i pu Qp zz cs hg
  cases hc:(yx zz sz&&(yE (o0+k*sz) cs.length&&cf new)) with
  | false=>rw [hc] at hv;cases hv
  | true=>
   rw [hc] at hv;simp only [ym,yc,yk] at hv;obtain ⟨rfl,rfl,rfl⟩:=hv;simp only [yg] at hc;have c0:=yo hc.1;have c1:=yC hc.2.1;subst c0;obtain ⟨p',arr,t',g1,g2,g3,g4,g5,g6,g7,g8,g9,g10⟩:=hh.obj id _ _ hg hm;rw [hm] at g1;injection g1 with g1
   subst g1;have ahu:min n k*zz<=k*zz:=y5 _ (Nat.min_le_right _ _);have aCd:min n k*zz<=n*zz:=y5 _ (yaZ _ _);have rt:=Fv (min n k*zz) gE;have rW:(news.take (min n k*zz)).length=min n k*zz:=by rw [yS,eQ.2.1];omega
   have aCn:(new.take (min n k*zz)).length=min n k*zz:=by rw [yS,<-Qr,eQ.2.1];omega
   have gA:=Nk rt (Zo _ hc.2.2);have hf:=eQ.2.2 w rfl (min n k) (yaZ _ _);have bh:=run_storeCells_at O.P p.b (p.o+o0) t' (news.take (min n k*zz)) 0 arr w g2 (by rw [rW];omega) gA;simp only [yZ] at bh;have pf:fV O m S (w.setRow p.b (arr.toList.take (p.o+o0)++news.take (min n k*zz)++arr.toList.drop (p.o+o0+(news.take (min n k*zz)).length)).toArray) id
     (.cells true (pu&&aK new) Qp zz (over o0 (new.take (min n k*zz)) cs)):=by
    refine ⟨p,_,t',hm,setRow_heap w p.b arr _ t' _ g2,g3,by rw [NF (by omega)];exact g4,?_,fun h=>by rw [NF (by omega)];exact g6 h,?_,?_,fun _=>g9 rfl,by simp⟩
    ·rw [uH,yO,yO,yS,wA,vK,rW];omega
    ·exact abV g2 g7 rt (by omega) (by omega) dW.refl (fun _ h=>h) (fun b hb=>setRow_other w p.b b _ (fun e=>g9 rfl (e▸hb))) (setRow_heap w p.b arr _ t' _ g2)
    ·intro h;simp only [yg] at h;exact Z7 (g8 h.1) (akz h.2)
   obtain ⟨e1,e2⟩:=Jv hh hg hm (g9 rfl) (R9 w p.b _) pf (fun r hr=>by rw [g2] at hr;cases hr)
   refine Jw (u:=goInt ((min n k:Nat):Int)) (m':=m) (S':=S) ?_ e1 (by simp [aj,goInt]) dW.refl e2;rw [fW,ex];simp [Builtin.copy_,run_underlying CW,eQ.1 w,oC hs,show Nat.min n k=min n k from rfl,hf,bh]
def aqu {o:yY} {k:Nat} {v:AV} {ao:Hp} {bj:Nat} (hH:gl O H) (ht:cF O m S w tm a.tmps) (hh:bg O m S w hp ct)
  (hv:dG tm hp ct (bw O.P H k o)=some (v,ao,bj)):AH O m S w a hp ct o v ao bj:=by
 have nv:∀{r:AV×Hp×Nat},dG tm hp ct bad=some r->False:=fun h=>by simp [bad,dG] at h
 cases ho:o.op with
 | call c=>
  obtain ⟨callee,args,ts⟩:=c;simp only [bw,ho] at hv
  split at hv
  ·cases WW:H.mode k<;>simp [WW,dG] at hv
  ·rename_i _ b
   split at hv
   ·rename_i x y t u iq qO;obtain ⟨al⟩:=args;obtain ⟨tl⟩:=ts;simp only at iq qO;subst iq;subst qO;obtain ⟨cs,fW⟩:=I5 (O:=O) (w:=w) (a:=a) ho;have UU:(execOp a.eval o).run O.P w=((do pure (.value (<-Builtin.append_ #[t,u] o.type #[a.eval x,a.eval y])):Sem yaU)).run O.P w:=by
     rw [fW];simp [builtin]
    have key:∀{z:AV} {sz by':Nat} {e:yv},O.P.underlying t=some (.slice e)->((∃e',O.P.underlying u=some (.slice e'))\/O.P.underlying u=some .string)->da O.P e=some sz->CR O.P e=some by'->nY O.P e=some z->
      dG tm hp ct (bif yx (cellsOf z).length sz then .dV sz by' (aV H x) (aV H y) else bad)=some (v,ao,bj)->AH O m S w a hp ct o v ao bj:=by
     intro z sz by' e h1 h2 h3 h4 h5 h
     cases hb:yx (cellsOf z).length sz with
     | false=>rw [hb] at h;exact (nv h).elim
     | true=>
      rw [hb] at h;exact an4 hH ht hh UU h1 h2 h3 h4 h5 (yo hb) h
    split at hv
    ·rename_i e e' h1 h2
     split at hv
     ·rename_i sz by' z h3 h4 h5
      exact key h1 (.inl ⟨_,h2⟩) h3 h4 h5 hv
     ·exact (nv hv).elim
    ·rename_i e h1 h2
     split at hv
     ·rename_i sz by' z h3 h4 h5
      exact key h1 (.inr h2) h3 h4 h5 hv
     ·exact (nv hv).elim
    ·exact (nv hv).elim
   ·repeat' split at hv
    all_goals simp [dG,bad] at hv
   ·rename_i x y t u iq qO;obtain ⟨al⟩:=args;obtain ⟨tl⟩:=ts;simp only at iq qO;subst iq;subst qO;obtain ⟨cs,fW⟩:=I5 (O:=O) (w:=w) (a:=a) ho;have UU:(execOp a.eval o).run O.P w=((do pure (.value (<-Builtin.copy_ #[t,u] o.type #[a.eval x,a.eval y])):Sem yaU)).run O.P w:=by
     rw [fW];simp [builtin]
    split at hv
    ·rename_i e h1
     split at hv
     ·rename_i sz h3;exact an5 hH ht hh UU h1 h3 hv
     ·exact (nv hv).elim
    ·exact (nv hv).elim
   ·simp [dG] at hv
   ·simp [dG] at hv
   ·exact (nv hv).elim
  ·exact (nv hv).elim
 | store t x y=>
  simp only [bw,ho] at hv
  split at hv
  ·rename_i s hs;exact aqq hH ht hh ho hs hv
  ·exact (nv hv).elim
 | mapUpdate t x k y=>
  simp only [bw,ho] at hv
  split at hv
  ·rename_i kt e hu
   split at hv
   ·rename_i kk zJ;exact abW hH ht hh (.inl ho) hu zJ hv
   ·exact (nv hv).elim
  ·exact (nv hv).elim
 | insert t x k y=>
  simp only [bw,ho] at hv
  split at hv
  ·rename_i kt e hu
   split at hv
   ·rename_i kk zJ;exact abW hH ht hh (.inr ho) hu zJ hv
   ·exact (nv hv).elim
  ·exact (nv hv).elim
 | next x b=>
  cases b with
  | false=>simp only [bw,ho] at hv;exact (nv hv).elim
  | true=>exact an3 hH ht hh ho (by simpa only [bw,ho] using hv)
 | binOp op t x y ty=>
  cases op<;>simp only [bw,ho,sS,Al] at hv
  case eql=>
        repeat' split at hv
        all_goals first
         | (simp [dG,bad] at hv;done)
         | (cases hb:(O.P.stoodInHeld t||O.P.eqGuardType O.P.depth t)<;>rw [hb] at hv<;>simp [dG,bad] at hv)
  case neq=>
        repeat' split at hv
        all_goals first
         | (simp [dG,bad] at hv;done)
         | (cases hb:(O.P.stoodInHeld t||O.P.eqGuardType O.P.depth t)<;>rw [hb] at hv<;>simp [dG,bad] at hv)
  all_goals simp [dG] at hv
 | buildSlice t n parts=>
  simp only [bw,ho] at hv
  repeat' split at hv
  all_goals first
   | (simp [dG,bad] at hv;done)
   | (
     revert hv;generalize yE _ _=bb;intro hv;cases bb<;>simp [dG,bad] at hv
     try (split at hv<;>simp [dG,bad] at hv))
 | makeMap t r=>
  cases r<;>simp only [bw,ho] at hv
  ·repeat' split at hv
   all_goals simp [dG,bad] at hv
  ·exact (nv hv).elim
 | _=>
  simp only [bw,ho] at hv
  (repeat' split at hv)
  all_goals first
   | contradiction
   | (simp [dG,bad] at hv;done)
end
end
section
section
variable {hp H:Hp} {tm tm':Env}
def ac7 (hl:dN hp H) {id:Nat} {rw pu ex:Bool} {sz:Nat} {cs:List AV} (h:ap hp id=some (.cells rw pu ex sz cs)):∃fm,ap H id=some (.cells fm pu ex sz cs):=by
 obtain ⟨o',h1,fm,rfl,_⟩:=hl id _ h;exact ⟨fm,h1⟩
def ac8 (hl:dN hp H) {id:Nat} {rw:Bool} {ks vs:List AV} (h:ap hp id=some (.mp rw ks vs)):∃fm,ap H id=some (.mp fm ks vs):=by
 obtain ⟨o',h1,fm,rfl,_⟩:=hl id _ h;exact ⟨fm,h1⟩
def ac9 (hl:dN hp H) {sz:Nat} {ag:Bool} {x v:AV} (h:jx hp sz ag x=some v):jx H sz ag x=some v:=by
 cases x<;>simp only [jx,reduceCtorEq] at h ⊢
 ·rename_i id o
  cases hg:ap hp id with
  | none=>simp [hg] at h
  | some ob=>
   cases ob<;>simp only [hg,reduceCtorEq] at h
   obtain ⟨r,h1⟩:=ac7 hl hg;simp only [h1];exact h
 ·exact h
def an6 (hl:dN hp H) {k x:AV} {v:Option AV} (h:Cg hp k x=some v):Cg H k x=some v:=by
 cases x<;>simp only [Cg,reduceCtorEq] at h ⊢
 ·exact h
 ·rename_i id
  cases hg:ap hp id with
  | none=>simp [hg] at h
  | some ob=>
   cases ob<;>simp only [hg,reduceCtorEq] at h
   obtain ⟨r,h1⟩:=ac8 hl hg;simp only [h1];exact h
 ·exact h
def an7 (hl:dN hp H) {k:Nat} {x v:AV} (h:im hp k x=some v):im H k x=some v:=by
 unfold im at h ⊢
 split at h
 all_goals first
  | exact h
  | cases h
  | skip
 rename_i id
 cases hg:ap hp id with
 | none=>simp [hg] at h
 | some ob=>
  cases ob<;>simp only [hg,reduceCtorEq] at h
  obtain ⟨r,h1⟩:=ac8 hl hg;simp only [h1];exact h
def an8 (hl:dN hp H) {k:Cut} {x v:AV} {lo hi:Option X} (h:fT hp k x tm lo hi=some v):fT H k x tm lo hi=some v:=by
 unfold fT at h ⊢
 split at h
 all_goals first
  | exact h
  | cases h
  | skip
 rename_i sz id o n
 cases hg:ap hp id with
 | none=>simp [hg] at h
 | some ob=>
  cases ob<;>simp only [hg,reduceCtorEq] at h
  obtain ⟨r,h1⟩:=ac7 hl hg;simp only [h1];exact h
def ama (hl:dN hp H) {o:Op} {v:AV} (h:bH tm hp o=some v):bH tm H o=some v:=by
 cases o<;>simp only [bH,reduceCtorEq] at h ⊢<;>first
  | exact h
  | exact ac9 hl h
  | exact an7 hl h
  | exact an8 hl h
  | skip
 rename_i kk zero ok m k
 cases hk:Ak kk (aC tm k) with
 | false=>rw [hk] at h;cases h
 | true=>
  rw [hk] at h;simp only [ym] at h ⊢
  cases hr:Cg hp (aC tm k) (aC tm m) with
  | none=>simp [hr] at h
  | some r=>rw [an6 hl hr];simpa only [hr] using h
def amb {o:Op} (hk:bK o=0) (hp H:Hp):bH tm hp o=bH tm H o:=by
 cases o with
 | eJ k x lo hi=>
  cases k with
  | str=>simp only [bH,fT];cases aC tm x<;>rfl
  | sl sz=>simp [bK] at hk
  | ar n sz=>simp [bK] at hk
 | len k x=>
  match k,hk with
  | 0,_=>simp only [bH];unfold im;split<;>simp_all
  | 1,_=>simp only [bH];unfold im;split<;>simp_all
  | k+2,hk=>simp [bK] at hk
 | call md f xs=>cases md<;>simp [bK] at hk
 | _=>first
  | rfl
  | simp [bK] at hk
end
section
variable {tm tm':Env}
def eG {x:X} (h:∀t,t∈kB x->ab tm' t=ab tm t):aC tm' x=aC tm x:=by
 cases x with
 | t i=>exact h i (by simp [kB])
 | c v=>rfl
def Dx:∀{xs:List X},(∀t,t∈As xs->ab tm' t=ab tm t)->dS tm' xs=dS tm xs
 | [],_=>rfl
 | x::r,h=>by
  simp only [dS]
  rw [eG (x:=x) (fun t ht=>h t (by simp [As,ht])),Dx (fun t ht=>h t (by simp [As,ht]))]
def Sy:∀{ps:List (Nat×Nat×X)} {z:List AV},(∀t,t∈Ko ps->ab tm' t=ab tm t)->fill tm' z ps=fill tm z ps
 | [],_,_=>rfl
 | (o,s,x)::r,z,h=>by
  simp only [fill]
  rw [eG (x:=x) (fun t ht=>h t (by simp [Ko,ht]))]
  rw [Sy (ps:=r) (fun t ht=>h t (by simp [Ko,ht]))]
def aaa {d:Nat} {x:Option X} (h:∀t,t∈Kn x->ab tm' t=ab tm t):de tm' d x=de tm d x:=by
 cases x with
 | none=>rfl
 | some x=>simp only [de];rw [eG h]
def ak8 {hp:Hp} {k:Cut} {x:AV} {lo hi:Option X} (h1:∀t,t∈Kn lo->ab tm' t=ab tm t) (h2:∀t,t∈Kn hi->ab tm' t=ab tm t):
  fT hp k x tm' lo hi=fT hp k x tm lo hi:=by
 unfold fT;simp only [aaa h1,aaa h2]
def akA {hp:Hp} {o:Op} (h:∀t,t∈lO o->ab tm' t=ab tm t):bH tm' hp o=bH tm hp o:=by
 cases o<;>simp only [lO,wG] at h<;>simp only [bH]
 case pick c a b=>rw [eG (x:=c) fun t ht=>h t (.inl ht),eG (x:=a) fun t ht=>h t (.inr (.inl ht)),eG (x:=b) fun t ht=>h t (.inr (.inr ht))]
 case eB z ps=>rw [Sy h]
 case oe f a b=>rw [Dx (xs:=a) fun t ht=>h t (.inl ht),Dx (xs:=b) fun t ht=>h t (.inr ht)]
 case eJ k x lo hi=>rw [eG (x:=x) fun t ht=>h t (.inl ht),ak8 (fun t ht=>h t (.inr (.inl ht))) (fun t ht=>h t (.inr (.inr ht)))]
 case mn xs=>rw [Dx h]
 case mx xs=>rw [Dx h]
 case bin op x y=>rw [eG (x:=x) fun t ht=>h t (.inl ht),eG (x:=y) fun t ht=>h t (.inr ht)]
 case eq n k x y=>rw [eG (x:=x) fun t ht=>h t (.inl ht),eG (x:=y) fun t ht=>h t (.inr ht)]
 case aY s x y=>rw [eG (x:=x) fun t ht=>h t (.inl ht),eG (x:=y) fun t ht=>h t (.inr ht)]
 case He l s x y=>rw [eG (x:=x) fun t ht=>h t (.inl ht),eG (x:=y) fun t ht=>h t (.inr ht)]
 case mj x y=>rw [eG (x:=x) fun t ht=>h t (.inl ht),eG (x:=y) fun t ht=>h t (.inr ht)]
 case Bb l s g x y=>rw [eG (x:=x) fun t ht=>h t (.inl ht),eG (x:=y) fun t ht=>h t (.inr ht)]
 case Qm kk z ok x y=>rw [eG (x:=x) fun t ht=>h t (.inl ht),eG (x:=y) fun t ht=>h t (.inr ht)]
 all_goals first
  | rfl
  | (rename_i x;rw [eG (x:=x) h])
def I6 {hp ao:Hp} {ct:Nat} {o:Op} (h:∀t,t∈lO o->ab tm' t=ab tm t):dt tm' ao ct o=dt tm hp ct o:=by
 cases o<;>simp only [lO,wG] at h<;>simp only [dt]
 case box s x=>rw [eG (x:=x) h]
 case dI n s z ps=>rw [Sy h]
 case iw s b z x y=>rw [eG (x:=x) fun t ht=>h t (.inl ht),eG (x:=y) fun t ht=>h t (.inr ht)]
 case qG x=>rw [eG (x:=x) h]
def Fi {hp:Hp} {ct:Nat} {o:Op} (h:∀t,t∈lO o->ab tm' t=ab tm t):dG tm' hp ct o=dG tm hp ct o:=by
 cases o<;>simp only [lO,wG] at h<;>simp only [dG]
 case st s x y=>rw [eG (x:=x) fun t ht=>h t (.inl ht),eG (x:=y) fun t ht=>h t (.inr ht)]
 case qF kk c a b=>rw [eG (x:=c) fun t ht=>h t (.inl ht),eG (x:=a) fun t ht=>h t (.inr (.inl ht)),eG (x:=b) fun t ht=>h t (.inr (.inr ht))]
 case qH x=>rw [eG (x:=x) h]
 case dV s b x y=>rw [eG (x:=x) fun t ht=>h t (.inl ht),eG (x:=y) fun t ht=>h t (.inr ht)]
 case qI s x y=>rw [eG (x:=x) fun t ht=>h t (.inl ht),eG (x:=y) fun t ht=>h t (.inr ht)]
end
end
end VE
