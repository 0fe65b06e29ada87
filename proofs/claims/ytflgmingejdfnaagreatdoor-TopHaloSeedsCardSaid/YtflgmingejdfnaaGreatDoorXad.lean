import Derived.Laws.CopyOwn
import Derived.Test.YtflgmingejdfnaaGreatDoorXac
set_option linter.all false
set_option maxRecDepth 100000
open Array renaming length_toList→wO
open Bool renaming and_eq_true→yf,false_eq_true→yt
open Go renaming Loop→vA,MapEntry→vC,Next→tT,Obj→yai,Oper→yL,Operand→xh,Program→yM,TypeDesc→wz,TypeId→yp,TypeInfo→yaS,Value→ye,World→yg,sizeOf→vm
open List renaming append_assoc→xg,cons_append→yH,eq_nil_of_length_eq_zero→yP,ext_getElem?→tu,getElem?_append_left→xx,getElem?_append_right→xj,getElem?_drop→tc,getElem?_take_of_lt→w5,getElem?_toArray→uG,length_append→yW,length_drop→wA,length_take→yK,map_cons→yV,mem_append→xR,size_toArray→vM,take_of_length_le→yI
open Nat renaming add_mul→vd,add_zero→xS,beq→yq,beq_refl→y7,ble→yA,blt→yB,eq_of_beq_eq_true→yk,eq_zero_or_pos→xp,le_of_ble_eq_true→yr,le_refl→yC,min_le_left→tZ,mul_le_mul_right→xr,zero_add→yy
open Option renaming isSome_none→uO
open Option.some renaming injEq→yb
open Prod.mk renaming injEq→yi
open UInt8 renaming toNat→yN
namespace VE
section
open Go
section
variable {O:aZ} {H:Hint} {m:Mp} {S:Nat->Prop} {w:yg} {tm:Env} {a:Act} {hp:Hp} {ct:Nat}
structure One (w w':yg) (g:Nat):Prop where
 os:w'.os=w.os
 tape:w'.tape=w.tape
 output:w'.output=w.output
 size:w'.heap.size=w.heap.size
 other:∀b,b≠g->w'.heap[b]? =w.heap[b]?
def G7 (w:yg) (g:Nat) (cs:Array ye):One w (w.setRow g cs) g:=
 ⟨rfl,rfl,rfl,by simp,fun b hb=>setRow_other w g b cs hb⟩
def Be {id:Nat} {o:Obj} {p:Pl} (h:aj hp id=some o) (hm:m id=some p):cX m hp p.b:=⟨id,o,p,h,hm,rfl⟩
def aac {id:Nat} {o':Obj} {b:Nat} (h:cX m (aW hp id o') b):cX m hp b:=by
 obtain ⟨i,o,p,h1,h2,h3⟩:=h;rw [mo] at h1;by_cases hi:id=i
 ·subst hi
  cases hq:aj hp id with
  | none=>simp [hq] at h1
  | some q=>exact ⟨id,q,p,hq,h2,h3⟩
 ·simp only [hi,yG] at h1;exact ⟨i,o,p,h1,h2,h3⟩
def AX (hh:aH O m S w hp ct) {id:Nat} {o o':Obj} {p:Pl} {w':yg} (ho:aj hp id=some o) (hm:m id=some p) (hn:¬S p.b) (hw:One w w' p.b) (h':dQ O m S w' id o') (hk:∀r:vA,w.heap[p.b]? =some (.loop r)->∃r':vA,w'.heap[p.b]? =some (.loop r')):
  aH O m S w' (aW hp id o') ct/\bH m S w hp m S w' (aW hp id o') ct:=by
 have aQ:eh S w w':=fun b hb=>hw.other b (fun e=>hn (e▸hb))
 refine ⟨⟨?_,hh.lt,?_,?_,?_,hh.low,?_,?_,fun i q hq=>(by
  rw [mo] at hq;by_cases hc:id=i
  ·subst hc;exact hh.aU _ _ ho
  ·simp only [hc,yG] at hq;exact hh.aU _ _ hq)⟩,⟨hw.os,hw.tape,hw.output,by rw [hw.size];exact yC _,?_,fun _ h=>h,fun b hb=>aQ b hb,fun b hb=> .inl hb,fun b hb=> .inl (aac hb),fun _ _ _ h=>h,fun b r hb=>?_⟩⟩
 rotate_right
 ·by_cases hc:b=p.b
  ·subst hc;exact hk r hb
  ·exact ⟨r,(hw.other b hc).trans hb⟩
 ·intro i q pi hi bn;rw [mo] at hi;by_cases hc:id=i
  ·subst hc;simp only [yQ,ho,Option.isSome_some] at hi;injection hi with hi
   subst hi;exact h'
  ·simp only [hc,yG] at hi;refine ml (fun _ _ h=>h) (fun _ h=>h) aQ (fun q' bI=>?_) (fun _ _ h=>h) (hh.obj i q pi hi bn);exact hw.other _ (fun e=>hc (hh.inj i id q o q' p hi ho bI hm e).symm)
 ·intro i j oi oj pi pj hi hj bn eA e;have key:∀{i:Nat} {oi:Obj},aj (aW hp id o') i=some oi->∃Cy,aj hp i=some Cy:=by
   intro i oi hi;rw [mo] at hi;by_cases hc:id=i
   ·subst hc;exact ⟨o,ho⟩
   ·simp only [hc,yG] at hi;exact ⟨oi,hi⟩
  obtain ⟨Cy,bP⟩:=key hi;obtain ⟨Cx,jt⟩:=key hj;exact hh.inj i j Cy Cx pi pj bP jt bn eA e
 ·intro b hb;rw [hw.size];exact hh.slt b hb
 ·intro i q hq;rw [hw.size];exact hh.blt i q hq
 ·intro b hb
  rw [hw.other b (fun e=>by have:=hh.low id p hm;omega)];exact hh.iB b hb
 ·rw [hw.size];exact hh.eG
 ·intro b _ hb;exact hw.other b (fun e=>hb (e▸Be ho hm))
def nH (O:aZ) (m:Mp) (S:Nat->Prop) (w:yg) (a:Act) (hp:Hp) (ct:Nat) (o:yL) (v:AV) (ai:Hp) (aK:Nat):Prop:=
 ∃n u w' m' S',(execOp a.eval o).run O.P w= .ok n w'/\(n= .value u\/(n= .skip/\u=undef))/\aH O m' S' w' ai aK/\af O.ae m' S' w' v u/\cE m m'/\bH m S w hp m' S' w' ai ct
def aad {ae:Nat->Nat} {v:AV} {u:ye} (h:af ae m S w v u) (ho:cg v=true):u.oneCell'=true:=by
 cases v with
 | fn f a b=>
  cases f with
  | f g=>simp only [af] at h;obtain ⟨_,_,rfl,_⟩:=h;rfl
  | y l=>simp only [af] at h;obtain ⟨_,_,rfl⟩:=h;rfl
 | int k n=>simp only [af] at h;subst h;rfl
 | bool b=>simp only [af] at h;subst h;rfl
 | cu k n=>simp only [af] at h;subst h;rfl
 | str s=>simp only [af] at h;obtain ⟨_,rfl,_⟩:=h;rfl
 | gM=>simp only [af] at h;subst h;rfl
 | ptr i k=>simp only [af] at h;obtain ⟨_,_,rfl⟩:=h;rfl
 | aO cs=>simp only [af] at h;obtain ⟨_,_,rfl,_⟩:=h;rfl
 | ab=>simp only [af] at h;subst h;rfl
 | aC e n cs=>simp only [af] at h;rcases h with ⟨_,_,_,rfl,_⟩ | ⟨_,rfl,_,_⟩<;>rfl
 | bS _ _ _ _=>simp [cg] at ho
 | aq i k n=>simp only [af] at h;obtain ⟨_,_,_,rfl,_⟩:=h;rfl
 | eZ=>simp only [af] at h;subst h;rfl
 | gm=>simp only [af] at h;subst h;rfl
 | map i=>simp only [af] at h;obtain ⟨_,_,rfl⟩:=h;rfl
 | fS ks vs=>simp only [af] at h;obtain ⟨_,_,_,rfl,_⟩:=h;rfl
 | it i=>simp only [af] at h;obtain ⟨_,_,rfl⟩:=h;rfl
 | agg cs=>simp [cg] at ho
 | ay cs=>simp [cg] at ho
 | undef=>simp [cg] at ho
def DE {ae:Nat->Nat}:∀{vs:List AV} {us:List ye},ak ae m S w vs us->bT vs=true->∀u∈us,u.oneCell'=true
 | [],us,h,_,u,hu=>by simp only [ak] at h;subst h;cases hu
 | v::r,us,h,ho,u,hu=>by
  obtain ⟨u',t,rfl,h1,h2⟩:=h;simp only [bT,yf] at ho;rcases List.mem_cons.1 hu with rfl | hu
  ·exact aad h1 ho.1
  ·exact DE h2 ho.2 u hu
def NQ {arr:Array ye} {t:yp} {p:Pl} {cs new:List AV} {vs:List ye} {o:Nat} {S':Nat->Prop} {m':Mp} (hb:w.heap[p.b]? =some (.cells arr t (0,0))) (hr:bt O.ae m S w cs p.b p.o)
  (hv:ak O.ae m S w new vs) (hl:o+new.length<=cs.length) (hs:p.o+cs.length<=arr.size) {w':yg} (hm:cE m m') (hS:∀b,S b->S' b) (aQ:eh S w w')
  (hw:w'.heap[p.b]? =some (.cells (arr.toList.take (p.o+o)++vs++arr.toList.drop (p.o+o+vs.length)).toArray t (0,0))):bt O.ae m' S' w' (over o new cs) p.b p.o:=by
 obtain ⟨us,h1,h2,h3⟩:=nf cs p.b p.o hr;have hvl:=fI _ _ hv;have h4:ak O.ae m S w (over o new cs) (us.take o++vs++us.drop (o+new.length)):=iM (iM (sO o h1) hv) (AN _ h1);refine sP _ _ _ (eV hm hS aQ _ _ h4) (fun j u hj=>?_);have o8:∀k u,us[k]? =some u->arr[p.o+k]? =some u:=by
  intro k u hk
  have:=h3 k u hk
  simpa [World.cell?,hb] using this
 simp only [World.cell?,hw,uO,yt,yG];rw [uG];have e1:(arr.toList.take (p.o+o)).length=p.o+o:=by rw [yK,wO];omega
 have e2:(us.take o).length=o:=by rw [yK];omega
 by_cases c1:j<o
 ·have g1:(us.take o++vs++us.drop (o+new.length))[j]? =us[j]? :=by
   rw [xg,xx (by omega),w5 c1]
  rw [g1] at hj;rw [xg,xx (by omega),w5 (by omega)];simpa using o8 j u hj
 ·by_cases c2:j<o+vs.length
  ·have g1:(us.take o++vs++us.drop (o+new.length))[j]? =vs[j-o]? :=by
    rw [xg,xj (by omega),e2,xx (by omega)]
   rw [g1] at hj;rw [xg,xj (by omega),e1,xx (by omega),show p.o+j-(p.o+o)=j-o by omega];exact hj
  ·have g1:(us.take o++vs++us.drop (o+new.length))[j]? =us[j]? :=by
    rw [xg,xj (by omega),e2,xj (by omega),tc]
    congr 1
    omega
   rw [g1] at hj;rw [xg,xj (by omega),e1,xj (by omega),tc,show p.o+o+vs.length+(p.o+j-(p.o+o)-vs.length)=p.o+j by omega];simpa using o8 j u hj
def DW {o:Nat} {new cs:List AV} (hl:o+new.length<=cs.length):(over o new cs).length=cs.length:=by
 simp only [over,yW,yK,wA];omega
def L7 {o:Nat} {new cs:List AV} (h:ax cs=true) (h':ax new=true):ax (over o new cs)=true:=
 sF (sF (qh _ h) h') (oH _ _ h)
def acg {o:yL} {t:yp} {x y:xh} {sz:Nat} {v:AV} {ai:Hp} {aK:Nat} (hH:dW O H) (ht:bJ O m S w tm a.tmps) (hh:aH O m S w hp ct)
  (ho:o.op= .store t x y) (hz:bQ O.P t=some sz) (hv:b8 tm hp ct (.st sz (aF H x) (aF H y))=some (v,ai,aK)):nH O m S w a hp ct o v ai aK:=by
 simp only [b8] at hv;have rx:=bN hH ht x;cases hx:ao tm (aF H x)<;>rw [hx] at hv rx<;>simp only [reduceCtorEq] at hv
 rename_i id k;simp only [af] at rx;obtain ⟨p,hm,ex⟩:=rx
 split at hv
 case h_2=>cases hv
 rename_i pu FN z cs hg
 cases hc:(yq (cellsOf (ao tm (aF H y))).length sz&&yA (k+sz) cs.length&&bT (cellsOf (ao tm (aF H y)))) with
 | false=>rw [hc] at hv;cases hv
 | true=>
  rw [hc] at hv;simp only [ym,yb,yi] at hv;obtain ⟨rfl,rfl,rfl⟩:=hv;simp only [yf] at hc;have c1:=yk hc.1.1;have c2:=yr hc.1.2;have ry:=Hm (bN hH ht y) hc.2;have hl:=fI _ _ ry;obtain ⟨p',arr,t',g1,g2,g3,g4,g5,g6,g7,g8,g9,g10⟩:=hh.obj id _ _ hg hm;rw [hm] at g1;injection g1 with g1
  subst g1;have fa:=DE ry hc.2;have dR:=run_storeCells_at O.P p.b (p.o+k) t' (a.eval y).cells.toList 0 arr w g2 (by rw [hl];omega) fa;simp only [xS] at dR;have ag1:(a.eval y).cells.size=sz:=by simp_all
  have lV:dQ O m S (w.setRow p.b (arr.toList.take (p.o+k)++(a.eval y).cells.toList++arr.toList.drop (p.o+k+(a.eval y).cells.toList.length)).toArray) id
    (.cells true (pu&&ax (cellsOf (ao tm (aF H y)))) FN z (over k (cellsOf (ao tm (aF H y))) cs)):=by
   refine ⟨p,_,t',hm,setRow_heap w p.b arr _ t' _ g2,g3,by rw [DW (by omega)];exact g4,?_,fun h=>by rw [DW (by omega)];exact g6 h,?_,?_,fun _=>g9 rfl,by simp⟩
   ·grind
   ·exact NQ g2 g7 ry (by omega) (by omega) cE.refl (fun _ h=>h) (fun b hb=>setRow_other w p.b b _ (fun e=>g9 rfl (e▸hb))) (setRow_heap w p.b arr _ t' _ g2)
   ·intro h;simp only [yf] at h;exact L7 (g8 h.1) h.2
  obtain ⟨e1,e2⟩:=AX hh hg hm (g9 rfl) (G7 w p.b _) lV (fun r hr=>by rw [g2] at hr;cases hr);refine ⟨.skip,undef,_,m,S,?_,.inr ⟨rfl,rfl⟩,e1,by simp [af,ak,undef],cE.refl,e2⟩;simp only [execOp,ho,Instr.storeAt,ex,Instr.sureAddr,Sem.run_bind,Sem.run_pure,Result.andThen_ok,storeVar,jw hz,ag1,uH,wq,yG];simp [dR]
def L8 {d:wz} {k k':ye} (h:Instr.sameNow d k k'=some true):k=k':=by
 unfold Instr.sameNow at h
 split at h
 ·grind
 ·rename_i p q;simp only [yb] at h;have h2:(p.data==q.data)=true:=by cases p;exact h
  cases p;cases q
  grind
 ·grind
 ·cases h
def sameBits_self {d:wz} {k k':ye} (h:Instr.sameNow d k k'=some true) (n:Nat):Instr.sameBits n k' k=true:=by
 have e:=L8 h;subst e;unfold Instr.sameNow at h
 split at h
 ·simp [Instr.sameBits]
 ·simp only [yb] at h;simp [Instr.sameBits,h]
 ·simp [Instr.sameBits]
 ·cases h
def Put (ae:Nat->Nat) (m:Mp) (S:Nat->Prop) (w:yg) (d:wz) (k x:ye) (es:List vC) (i:Nat) (gQ cW:List AV):Prop:=
 (Instr.findNow d k es i=some none/\ak ae m S w gQ (es.map (·.key)++[k])/\ak ae m S w cW (es.map (·.val)++[x]))\/
 ∃(j:Nat) (e0:vC),Instr.findNow d k es i=some (some (i+j,e0.val))/\es[j]? =some e0/\Instr.sameNow d k e0.key=some true/\ak ae m S w gQ (es.map (·.key))/\ak ae m S w cW ((es.map (·.val)).set j x)
def OS {ae:Nat->Nat} {vk vx:AV} {k x:ye} {d:wz} (hk:af ae m S w vk k) (hx:af ae m S w vx x) (hd:fits d vk=true):∀(ks vs:List AV) (es:List vC) (i:Nat) (gQ cW:List AV),
  ak ae m S w ks (es.map (·.key))->ak ae m S w vs (es.map (·.val))->pg vk vx ks vs=some (gQ,cW)->Put ae m S w d k x es i gQ cW
 | [],[],es,i,gQ,cW,h1,h2,h=>by
  simp only [ak,List.map_eq_nil_iff] at h1;subst h1;obtain ⟨rfl,rfl⟩:=h;exact .inl ⟨rfl,by simp [ak,hk],by simp [ak,hx]⟩
 | [],_::_,es,i,gQ,cW,h1,h2,h=>by simp [pg] at h
 | _::_,[],es,i,gQ,cW,h1,h2,h=>by simp [pg] at h
 | c::ks,v::vs,es,i,gQ,cW,h1,h2,h=>by
  cases es with
  | nil=>simp [ak] at h1
  | cons e es=>
   obtain ⟨u,t,⟨rfl,rfl⟩,hc,FL⟩:=h1;obtain ⟨u',t',⟨rfl,rfl⟩,hv,FM⟩:=h2;simp only [pg] at h
   cases n5:zi vk c with
   | none=>simp [n5] at h
   | some b=>
    have hs:=NM (d:=d) hk hc n5 hd
    cases b with
    | true=>
     simp only [n5,yb,yi] at h;obtain ⟨rfl,rfl⟩:=h;refine .inr ⟨0,e,by simp [Instr.findNow,hs],rfl,hs,?_,?_⟩
     ·simp only [yV,ak];exact ⟨_,_,rfl,hc,FL⟩
     ·simp only [yV,List.set_cons_zero,ak];exact ⟨_,_,rfl,hx,FM⟩
    | false=>
     simp only [n5] at h
     cases hm:pg vk vx ks vs with
     | none=>simp [hm] at h
     | some q=>
      obtain ⟨k1,v1⟩:=q;simp only [hm,yb,yi] at h;obtain ⟨rfl,rfl⟩:=h;rcases OS hk hx hd ks vs es (i+1) k1 v1 FL FM hm with ⟨g1,g2,g3⟩ | ⟨j,e0,g1,g2,g3,g4,g5⟩
      ·refine .inl ⟨by simp [Instr.findNow,hs,g1],?_,?_⟩
       ·simp only [yV,yH,ak];exact ⟨_,_,rfl,hc,g2⟩
       ·simp only [yV,yH,ak];exact ⟨_,_,rfl,hv,g3⟩
      ·refine .inr ⟨j+1,e0,?_,by simpa using g2,g3,?_,?_⟩
       ·simp only [Instr.findNow,hs,g1]
        grind
       ·simp only [yV,ak];exact ⟨_,_,rfl,hc,g4⟩
       ·simp only [yV,List.set_cons_succ,ak];exact ⟨_,_,rfl,hv,g5⟩
def sJ (w:yg) (g:Nat) (o:yai):One w {w with heap:=w.heap.setIfInBounds g o} g:=
 ⟨rfl,rfl,rfl,by simp,fun b hb=>by simp [Array.getElem?_setIfInBounds_ne (fun e=>hb e.symm)]⟩
def Ds {g:Nat} {o q:yai} (h:w.heap[g]? =some q):({w with heap:=w.heap.setIfInBounds g o}:yg).heap[g]? =some o:=by grind
def NR {o:yL} {t kt e:yp} {x k y:xh} {kk:Nat} {v:AV} {ai:Hp} {aK:Nat} (hH:dW O H) (ht:bJ O m S w tm a.tmps) (hh:aH O m S w hp ct)
  (ho:o.op= .mapUpdate t x k y\/o.op= .insert t x k y) (hu:O.P.underlying t=some (.map kt e)) (rW:VE.keyOf O.P kt=some kk) (hv:b8 tm hp ct (.kO kk (aF H x) (aF H k) (aF H y))=some (v,ai,aK)):nH O m S w a hp ct o v ai aK:=by
 simp only [b8] at hv;have rx:=bN hH ht x;cases hx:ao tm (aF H x)<;>rw [hx] at hv rx<;>simp only [reduceCtorEq] at hv
 rename_i id;simp only [af] at rx;obtain ⟨p,hm,ex⟩:=rx
 split at hv
 case h_2=>cases hv
 rename_i ks vs hg
 cases hc:nk kk (ao tm (aF H k)) with
 | false=>simp [hc] at hv
 | true=>
  simp only [hc,Bool.not_true,yu] at hv
  cases bl:pg (ao tm (aF H k)) (ao tm (aF H y)) ks vs with
  | none=>simp [bl] at hv
  | some q=>
   obtain ⟨gQ,cW⟩:=q;simp only [bl,yb,yi] at hv;obtain ⟨rfl,rfl,rfl⟩:=hv;obtain ⟨d,jP,eH,Cw⟩:=L4 rW hc;obtain ⟨p',es,clock,g1,g2,g3,g4,g5,g6⟩:=hh.obj id _ _ hg hm;rw [hm] at g1;injection g1 with g1
   subst g1;have aiy:=OS (d:=d) (bN hH ht k) (bN hH ht y) Cw ks vs es.toList 0 gQ cW g3 g4 bl
   have fin:∀(rY:Array vC) (c':Nat),(Instr.mapUpdate t (a.eval x) (a.eval k) (a.eval y)).run O.P w= .ok () {w with heap:=w.heap.setIfInBounds p.b (.map rY c')}->
     ak O.ae m S w gQ (rY.toList.map (·.key))->ak O.ae m S w cW (rY.toList.map (·.val))->nH O m S w a hp ct o (.ay []) (aW hp id (.mp true gQ cW)) ct:=by
    intro rY c' dR h1 h2
    have aQ:eh S w {w with heap:=w.heap.setIfInBounds p.b (.map rY c')}:=fun b hb=>(sJ w p.b _).other b (fun e=>g5 rfl (e▸hb))
    have lV:dQ O m S {w with heap:=w.heap.setIfInBounds p.b (.map rY c')} id (.mp true gQ cW):=
     ⟨p,rY,c',hm,Ds g2,eV (fun _ _ h=>h) (fun _ h=>h) aQ _ _ h1,eV (fun _ _ h=>h) (fun _ h=>h) aQ _ _ h2,fun _=>g5 rfl,by simp⟩
    obtain ⟨e1,e2⟩:=AX hh hg hm (g5 rfl) (sJ w p.b _) lV (fun r hr=>by rw [g2] at hr;cases hr);refine ⟨.skip,undef,_,m,S,?_,.inr ⟨rfl,rfl⟩,e1,by simp [af,ak,undef],cE.refl,e2⟩;rcases ho with ho | ho<;>simp [execOp,ho,dR]
   have lW:=Di (P:=O.P) (w:=w) jP eH false (a.eval k);rcases aiy with ⟨h1,h2,h3⟩ | ⟨j,e0,h1,h2,h3,h4,h5⟩
   ·refine fin (es.push ⟨a.eval k,a.eval y,clock⟩) (clock+1) ?_ (by simpa using h2) (by simpa using h3);rw [ex];simp [Instr.mapUpdate,run_underlying hu,MapKept.run_getObj_map g2,lW,Instr.findKey,run_underlying jP,h1,MapKept.run_setObj_map _ g2]
   ·have hj:es[j]? =some e0:=by simp_all
    simp only [yy] at h1;have SW:=L8 h3
    refine fin (es.modify j fun e=>{e with key:=a.eval k,val:=a.eval y}) clock ?_ ?_ ?_
    ·rw [ex];have hsb:Instr.sameBits 10000 (a.eval k) (a.eval k)=true:=by have:=sameBits_self h3 10000;rwa [<-SW] at this
     simp [Instr.mapUpdate,run_underlying hu,MapKept.run_getObj_map g2,lW,Instr.findKey,run_underlying jP,h1,MapKept.run_setObj_map _ g2,hj,Instr.keyThatStays,hsb,SW.symm]
    ·have:(es.modify j fun e=>{e with key:=a.eval k,val:=a.eval y}).toList.map (·.key)=es.toList.map (·.key):=by
      apply tu
      grind
     grind
    ·have:(es.modify j fun e=>{e with key:=a.eval k,val:=a.eval y}).toList.map (·.val)=(es.toList.map (·.val)).set j (a.eval y):=by
      apply tu
      grind
     grind
def ach (t:ByteArray) (i:Nat):(t.get! i).toNat=(t.data.toList.map yN).getD i 0:=by
 have:t.get! i=t.data[i]! :=by cases t;rfl
 rw [this];by_cases h:i<t.data.size
 ·grind
 ·simp only [Array.getElem!_eq_getD,Array.getD_eq_getD_getElem?,List.getD_eq_getElem?_getD,List.getElem?_map,Array.getElem?_toList];rw [Array.getElem?_eq_none (by omega)];rfl
def Yy (t:ByteArray) (i:Nat):decodeL (t.data.toList.map yN) i=Utf8.decode t i:=by
 have eU:(t.data.toList.map yN).length=t.size:=by simp
 simp only [decodeL,Utf8.decode,ach,eU]
def aae {o:yL} {x:xh} {v:AV} {ai:Hp} {aK:Nat} (hH:dW O H) (ht:bJ O m S w tm a.tmps) (hh:aH O m S w hp ct)
  (ho:o.op= .next x true) (hv:b8 tm hp ct (.kQ (aF H x))=some (v,ai,aK)):nH O m S w a hp ct o v ai aK:=by
 simp only [b8] at hv;have rx:=bN hH ht x;cases hx:ao tm (aF H x)<;>rw [hx] at hv rx<;>simp only [reduceCtorEq] at hv
 rename_i id;simp only [af] at rx;obtain ⟨p,hm,ex⟩:=rx
 split at hv
 case h_2=>cases hv
 rename_i s pos hg;obtain ⟨p',t,g1,g2,g3,g4⟩:=hh.obj id _ _ hg hm;rw [hm] at g1;injection g1 with g1
 subst g1;have aj:(getObj p.b).run O.P w= .ok (.stringIter t pos) w:=by simp [getObj,Sem.run,g2]
 have hlen:s.length=t.size:=by rw [<-g3];simp
 cases hc:yB pos s.length with
 | false=>
  rw [hc] at hv;simp only [yu,yb,yi] at hv;obtain ⟨rfl,rfl,rfl⟩:=hv;have aU:¬pos<t.size:=by
   intro h
   have:yB pos s.length=true:=by simp [yB];omega
   grind
  refine ⟨.value (.tuple #[.bool false]),.tuple #[.bool false],w,m,S,?_,.inl rfl,hh,by simp [af,ak],cE.refl,bH.refl⟩;simp [execOp,ho,ex,Instr.next,aj,aU]
 | true=>
  rw [hc] at hv;simp only [ym] at hv;have aU:pos<t.size:=by
   simp_all
  cases U5:decodeL s pos with | mk c wd=>
  rw [U5] at hv;simp only [yb,yi] at hv;obtain ⟨rfl,rfl,rfl⟩:=hv;have hd:Utf8.decode t pos=(c,wd):=by rw [<-Yy,g3,U5]
  have lV:dQ O m S {w with heap:=w.heap.setIfInBounds p.b (.stringIter t (pos+wd))} id (.si s (pos+wd)):=⟨p,t,hm,Ds g2,g3,g4⟩;obtain ⟨e1,e2⟩:=AX hh hg hm g4 (sJ w p.b _) lV (fun r hr=>by rw [g2] at hr;cases hr);refine ⟨.value (.tuple #[.bool true,goInt pos,.int .i32 c]),_,_,m,S,?_,.inl rfl,e1,by simp [af,ak,goInt],cE.refl,e2⟩
  have aW:(setObj p.b (.stringIter t (pos+wd))).run O.P w= .ok () {w with heap:=w.heap.setIfInBounds p.b (.stringIter t (pos+wd))}:=by simp [setObj,Sem.run,g2]
  simp [execOp,ho,ex,Instr.next,aj,aU,hd,aW]
end
end
section
open Go
def AO {hp:Hp} {id i:Nat}:aj (cp hp id) i=if id=i then none else aj hp i:=by
 induction hp with
 | nil=>simp [cp,aj]
 | cons x r ih=>
  obtain ⟨j,q⟩:=x;simp only [cp];by_cases hj:j=id
  ·subst hj;simp only [y7,ym,ih,aj];by_cases hi:j=i
   ·grind
   ·have:yq j i=false:=by
     cases hq:yq j i with
     | false=>rfl
     | true=>exact absurd (yk hq) hi
    grind
  ·have hb:yq j id=false:=by
    cases hq:yq j id with
    | false=>rfl
    | true=>exact absurd (yk hq) hj
   simp only [hb,yu];rw [show aj ((j,q)::cp r id) i=bif yq j i then some q else aj (cp r id) i from rfl,ih];by_cases hi:j=i
   ·subst hi
    have:¬id=j:=fun h=>hj h.symm
    simp [y7,this,aj]
   ·have mT:yq j i=false:=by
     cases hq:yq j i with
     | false=>rfl
     | true=>exact absurd (yk hq) hi
    simp [mT,aj]
section
variable {O:aZ} {H:Hint} {m:Mp} {S:Nat->Prop} {w:yg} {tm:Env} {a:Act} {hp:Hp} {ct:Nat}
def Src (P:yM) (w:yg) (size n:Nat) (news:List ye) (x:ye):Prop:=
 (∀w',(Builtin.lenOf x).run P w'= .ok n w')/\news.length=n*size/\
 ∀w',w'.heap=w.heap->∀k,k<=n->(Builtin.firstCells size k x).run P w'= .ok (news.take (k*size)).toArray w'
def AP {P:yM} {size n c:Nat} {b:Addr} {news:List ye} (hl:news.length=n*size) (hc:∀j u,news[j]? =some u->w.cell? (b.add j)=some u):
  Src P w size n news (.slice (some b) n c):=by
 refine ⟨fun w'=>by simp [Builtin.lenOf],hl,fun w' hw k hk=>?_⟩;have hle:k*size<=news.length:=by rw [hl];exact xr _ hk
 refine run_firstCells_some (P:=P) w' size k b n c (news.take (k*size)) (by rw [yK];omega) (fun j v hv=>?_);rw [List.getElem?_take] at hv
 split at hv
 ·have:=hc j v hv
  simpa [World.cell?,hw] using this
 ·cases hv
def OT {P:yM} {size:Nat}:Src P w size 0 [] (.slice none 0 0):=
 ⟨fun w'=>by simp [Builtin.lenOf],by simp,fun w' _ k hk=>by simp [Builtin.firstCells]⟩
def XE (s:ByteArray) (k:Nat):(s.extract 0 k).data.map (fun b=>Value.int .u8 b.toNat)=((s.data.toList.map fun b=>Value.int .u8 (b.toNat:Int)).take k).toArray:=by
 have:(s.extract 0 k).data=s.data.extract 0 k:=by simp
 grind
def aci {P:yM} {s:ByteArray}:Src P w 1 s.size (s.data.toList.map fun b=>Value.int .u8 (b.toNat:Int)) (.string s):=by
 refine ⟨fun w'=>by simp [Builtin.lenOf],by simp,fun w' _ k hk=>?_⟩;simp only [Builtin.firstCells,Sem.run_pure,Nat.mul_one];rw [XE]
def LH {ae:Nat->Nat}:∀l:List UInt8,ak ae m S w (D7 (l.map yN)) (l.map fun b=>Value.int .u8 (b.toNat:Int))
 | []=>by simp [D7,ak]
 | b::r=>by
  exact ⟨_,_,rfl,by simp [af],LH r⟩
def L9 {size n:Nat} {vx:AV} {x:ye} {cs:List AV} (hh:aH O m S w hp ct) (hx:af O.ae m S w vx x) (h:lD hp size vx=some (n,cs)):
  ∃us,ak O.ae m S w cs us/\Src O.P w size n us x:=by
 cases vx<;>simp only [lD,reduceCtorEq] at h
 case ab=>
  obtain ⟨rfl,rfl⟩:=h;subst hx;exact ⟨[],by simp [ak],OT⟩
 case aC ex n' cK=>
  cases hc:yq cK.length (n'*size) with
  | false=>rw [hc] at h;cases h
  | true=>
   rw [hc] at h;obtain ⟨rfl,rfl⟩:=h;have hl:=yk hc;rcases hx with ⟨b,o,c,rfl,h1,h2,h3,h4,h5⟩ | ⟨ad,rfl,rfl,rfl⟩
   ·obtain ⟨us,g1,g2,g3⟩:=nf _ b o h5;exact ⟨us,g1,AP (by omega) (fun j u hj=>by rw [j8];exact g3 j u hj)⟩
   ·exact ⟨[],by simp [ak],AP (by simp) (fun j u hj=>by simp at hj)⟩
 case aq id o n'=>
  cases hg:aj hp id with
  | none=>simp [hg] at h
  | some ob=>
   cases ob<;>simp only [hg,reduceCtorEq] at h
   rename_i rw pu ex z cK
   cases hc:yA (o+n'*size) cK.length with
   | false=>rw [hc] at h;cases h
   | true=>
    rw [hc] at h;simp only [ym,yb,yi] at h;obtain ⟨rfl,rfl⟩:=h;have hl:=yr hc;obtain ⟨p,c,hm,rfl,h1,h2⟩:=hx;have hr:=HS (o:=0) (n:=0) hh hg hm;have dA:=qt (n'*size) _ _ _ (mh o _ _ _ hr);obtain ⟨us,g1,g2,g3⟩:=nf _ p.b (p.o+o) dA;refine ⟨us,g1,AP ?_ (fun j u hj=>by rw [j8];exact g3 j u hj)⟩
    grind
def Yz {size n:Nat} {vx:AV} {x:ye} {cs:List AV} (hh:aH O m S w hp ct) (hx:af O.ae m S w vx x) (h:nu hp size vx=some (n,cs)):
  ∃us,ak O.ae m S w cs us/\Src O.P w size n us x:=by
 cases vx<;>try exact L9 hh hx h
 simp only [nu] at h
 cases hc:yq size 1 with
 | false=>rw [hc] at h;cases h
 | true=>
  rw [hc] at h;obtain ⟨rfl,rfl⟩:=h
  have:=yk hc
  subst this;obtain ⟨t,rfl,rfl⟩:=hx;refine ⟨_,LH _,?_⟩
  have:(List.map yN t.data.toList).length=t.size:=by simp
  rw [this];exact aci
def WU {P:yM} {t u ty e:yp} {i:yaS} (ht:P.underlying t=some (.slice e)) (hu:(∃e',P.underlying u=some (.slice e'))\/P.underlying u=some .string) (hi:P.info? e=some i)
  {g o fk lN:Nat} {cur:Array ye} {te:yp} (hg:w.heap[g]? =some (.cells cur te (0,0))) {x:ye} {n:Nat} {news:List ye} (hs:Src P w i.size n news x) (h1:∀u∈news,u.oneCell'=true)
  (zk:fk+n<=lN) (Jr:o+fk*i.size+news.length<=cur.size):
  (Builtin.append_ #[t,u] ty #[.slice (some ⟨g,o,none⟩) fk lN,x]).run P w=
   .ok (.slice (some ⟨g,o,none⟩) (fk+n) lN) (w.setRow g (cur.toList.take (o+fk*i.size)++news++cur.toList.drop (o+fk*i.size+news.length)).toArray):=by
 obtain ⟨pO,z6,Kb⟩:=hs;have hf:=Kb w rfl n (yC _);rw [yI (by omega)] at hf;have aQ:=run_storeCells_at P g (o+fk*i.size) te news 0 cur w hg (by omega) h1;rcases hu with ⟨e',hd⟩ | hd<;>
  simp [Builtin.append_,run_underlying ht,run_underlying hd,vm,typeInfo,hi,pO,zk,hf,j8,aQ]
def GR {P:yM} {t u ty e:yp} {i:yaS} {z:ye} (ht:P.underlying t=some (.slice e)) (hu:(∃e',P.underlying u=some (.slice e'))\/P.underlying u=some .string) (hi:P.info? e=some i) (hz:i.zero=some z)
  {s:ye} {base:Option Addr} {fk lN:Nat} (es:s= .slice base fk lN) {jm:List ye} (ho:Src P w i.size fk jm s) {x:ye} {n:Nat} {news:List ye} (hs:Src P w i.size n news x)
  (hg:lN<fk+n) (h63:fk+n<=1099511627776) (Ka:(fk+n)*i.bytes<=1099511627776):
  (Builtin.append_ #[t,u] ty #[s,x]).run P w=
   .ok (.slice (some ⟨w.heap.size,0,none⟩) (fk+n) (grownCap w (fk+n) lN e))
    (w.drew.alloc (.cells ((jm++news).toArray++Builtin.zeroCells z.cells (grownCap w (fk+n) lN e-(fk+n))) e)):=by
 obtain ⟨pO,z6,Kb⟩:=hs;obtain ⟨ho1,Kc,ho3⟩:=ho;have hf:=Kb w.drew rfl n (yC _);rw [yI (by omega)] at hf;have hfo:=ho3 w.drew rfl fk (yC _);have hn:¬(fk+n<=lN):=by omega
 have aiz:¬(9223372036854775807<((fk:Int)+(n:Int))):=by omega
 have Jr:=growslice_fits (need:=fk+n) (old:=lN) (bytes:=i.bytes) hg (by omega);have aiA:¬(281474976710656<Builtin.nextslicecap (fk+n) lN*i.bytes):=by omega
 subst es;rcases hu with ⟨e',hd⟩ | hd
 all_goals
  simp [Builtin.append_,run_underlying ht,run_underlying hd,vm,typeInfo,zeroValue,hi,hz,pO,hn,aiz,aiA,Question.forced,hf,hfo,newRow,askRoom,grownCap]
  grind
def Ht {e:yp} {z:ye} {sz need cap:Nat} {cs:List AV} {us:List ye} (hh:aH O m S w hp ct) (hr:ak O.ae m S w cs us) (hl:us.length=need*sz) (hz:z.cells.size=sz)
  (EF:Bool) (hpp:EF=true->ax cs=true) (hc:need<=cap):
  let w':=w.drew.alloc (.cells (us.toArray++Builtin.zeroCells z.cells (cap-need)) e)
  let p:Pl:=⟨w.heap.size,0,cap*sz,sz⟩
  ∀m',cE m m'->m' ct=some p->dQ O m' S w' ct (.cells true EF false sz cs):=by
 intro w' p m' hm hi;have aQ:eh S w w':=fun b hb=>by
  have:=hh.slt b hb
  exact RowKit.Below.heap_alloc w.drew _ b (by simpa using this)
 have mF:w'.heap[w.heap.size]? =some (.cells (us.toArray++Builtin.zeroCells z.cells (cap-need)) e (0,0)):=heap_alloc_new w.drew _;have fX:=fI _ _ hr;refine ⟨p,_,e,hi,mF,rfl,?_,?_,by simp,?_,hpp,?_,by simp⟩
 ·show cs.length<=cap*sz
  rw [<-fX,hl];exact xr _ hc
 ·show 0+cap*sz<=_
  rw [Array.size_append,vM,size_zeroCells,hz,hl,<-vd]
  grind
 ·refine Hn mF cs us 0 (eV hm (fun _ h=>h) aQ _ _ hr) (fun j u hj=>?_)
  grind
 ·intro _ hS
  have:=hh.slt _ hS
  grind
def WG (hh:aH O m S w hp ct) (g:yai):eh S w (w.drew.alloc g):=fun b hb=>by
 have:=hh.slt b hb
 exact RowKit.Below.heap_alloc w.drew _ b (by simpa using this)
def Hu (hh:aH O m S w hp ct) {hp0:Hp} {g:yai} {p:Pl} {o:Obj} (E9:∀i q,aj hp0 i=some q->aj hp i=some q) (hb:p.b=w.heap.size)
  (ho:∀m',cE m m'->m' ct=some p->dQ O m' S (w.drew.alloc g) ct o):
  aH O (dS m ct p) S (w.drew.alloc g) ((ct,o)::hp0) (ct+1)/\bH m S w hp (dS m ct p) S (w.drew.alloc g) ((ct,o)::hp0) ct:=by
 have hn:m ct=none:=by
  cases h:m ct with
  | none=>rfl
  | some q=>have:=hh.lt _ _ h;omega
 have hle:=gX hn (p:=p);have aQ:=WG hh g;have hold:∀b,b<w.heap.size->(w.drew.alloc g).heap[b]? =w.heap[b]? :=fun b hb=>RowKit.Below.heap_alloc w.drew _ b (by simpa using hb)
 have eU:(w.drew.alloc g).heap.size=w.heap.size+1:=by simp
 have il:∀i q,aj ((ct,o)::hp0) i=some q->i≠ct->aj hp i=some q:=fun i q h hi=>by
  rw [eW,yD (fun e=>hi e.symm)] at h
  grind
 refine ⟨⟨?_,?_,?_,?_,?_,?_,?_,?_,fun i q hq=>(by
  by_cases hc:i=ct
  ·omega
  ·have:=hh.aU _ _ (il i q hq hc);omega)⟩,⟨rfl,rfl,rfl,by omega,?_,fun _ h=>h,fun b hb=>aQ b hb,fun b hb=> .inl hb,?_,fun i q _ h=>hle i q h,fun b r hb=>⟨r,(hold b (Array.getElem?_eq_some_iff.1 hb).1).trans hb⟩⟩⟩
 ·intro i q pi hi bn;by_cases hc:i=ct
  ·subst hc;rw [eW] at hi;simp only [yQ,yb] at hi;subst hi;exact ho _ hle dc
  ·rw [da hc] at bn;exact ml hle (fun _ h=>h) aQ (fun q' bI=>hold _ (hh.blt i q' bI)) (fun _ _ h=>h) (hh.obj i q pi (il i q hi hc) bn)
 ·intro i q bn;by_cases hc:i=ct
  ·omega
  ·rw [da hc] at bn;have:=hh.lt i q bn;omega
 ·intro i j oi oj pi pj hi hj bn eA e;by_cases ci:i=ct
  ·by_cases cj:j=ct
   ·grind
   ·subst ci;rw [dc] at bn;rw [da cj] at eA;injection bn with bn
    subst bn
    have:=hh.blt j pj eA
    omega
  ·rw [da ci] at bn;by_cases cj:j=ct
   ·subst cj;rw [dc] at eA;injection eA with eA
    subst eA
    have:=hh.blt i pi bn
    omega
   ·rw [da cj] at eA;exact hh.inj i j oi oj pi pj (il i oi hi ci) (il j oj hj cj) bn eA e
 ·intro b hb;have:=hh.slt b hb;omega
 ·intro i q bn;by_cases hc:i=ct
  ·subst hc;rw [dc] at bn;injection bn with bn
   subst bn;omega
  ·rw [da hc] at bn;have:=hh.blt i q bn;omega
 ·intro i q bn;have h0:=hh.eG;by_cases hc:i=ct
  ·subst hc;rw [dc] at bn;injection bn with bn
   subst bn;omega
  ·rw [da hc] at bn;exact hh.low i q bn
 ·intro b hb;have h0:=hh.eG;exact (hold b (by omega)).trans (hh.iB b hb)
 ·have h0:=hh.eG;omega
 ·intro b hb _;exact hold b hb
 ·rintro b ⟨i,q,pi,h1,h2,h3⟩;by_cases hc:i=ct
  ·subst hc;rw [dc] at h2;injection h2 with h2
   subst h2;exact .inr (by omega)
  ·rw [da hc] at h2;exact .inl ⟨i,q,pi,il i q h1 hc,h2,h3⟩
def YA (hh:aH O m S w hp ct) {id:Nat} {o o':Obj} {p p':Pl} {w':yg} (hg:aj hp id=some o) (hm:m id=some p) (hn:¬S p.b) (hw:One w w' p.b) (hk:∀r:vA,w.heap[p.b]? =some (.loop r)->∃r':vA,w'.heap[p.b]? =some (.loop r')) (hb:p'.b=p.b)
  (ho:∀m',cE m m'->m' ct=some p'->dQ O m' S w' ct o'):
  aH O (dS m ct p') S w' ((ct,o')::cp hp id) (ct+1)/\bH m S w hp (dS m ct p') S w' ((ct,o')::cp hp id) ct:=by
 have J9:m ct=none:=by
  cases h:m ct with
  | none=>rfl
  | some q=>have:=hh.lt _ _ h;omega
 have hle:=gX J9 (p:=p');have aQ:eh S w w':=fun b hb=>hw.other b (fun e=>hn (e▸hb))
 have il:∀i q,aj ((ct,o')::cp hp id) i=some q->i≠ct->aj hp i=some q/\i≠id:=fun i q h hi=>by
  rw [eW,yD (fun e=>hi e.symm),AO] at h
  grind
 have SX:∀i q pi,aj hp i=some q->i≠id->m i=some pi->pi.b≠p.b:=fun i q pi h hi bn e=>hi (hh.inj i id q o pi p h hg bn hm e)
 refine ⟨⟨?_,?_,?_,?_,?_,?_,?_,?_,fun i q hq=>(by
  by_cases hc:i=ct
  ·omega
  ·have:=hh.aU _ _ (il i q hq hc).1;omega)⟩,⟨hw.os,hw.tape,hw.output,by rw [hw.size];exact yC _,?_,fun _ h=>h,fun b hb=>aQ b hb,fun b hb=> .inl hb,?_,fun i q _ h=>hle i q h,fun b r hb=>(by
  by_cases hc:b=p.b
  ·grind
  ·exact ⟨r,(hw.other b hc).trans hb⟩)⟩⟩
 ·intro i q pi hi bn;by_cases hc:i=ct
  ·subst hc;rw [eW] at hi;simp only [yQ,yb] at hi;subst hi;exact ho _ hle dc
  ·rw [da hc] at bn;obtain ⟨h1,h2⟩:=il i q hi hc;exact ml hle (fun _ h=>h) aQ (fun q' bI=>hw.other _ (SX i q q' h1 h2 bI)) (fun _ _ h=>h) (hh.obj i q pi h1 bn)
 ·intro i q bn;by_cases hc:i=ct
  ·omega
  ·rw [da hc] at bn;have:=hh.lt i q bn;omega
 ·intro i j oi oj pi pj hi hj bn eA e;by_cases ci:i=ct
  ·by_cases cj:j=ct
   ·grind
   ·subst ci;rw [dc] at bn;rw [da cj] at eA
    grind
  ·rw [da ci] at bn;obtain ⟨h1,h2⟩:=il i oi hi ci;by_cases cj:j=ct
   ·subst cj;rw [dc] at eA;injection eA with eA
    subst eA;exact (SX i oi pi h1 h2 bn (by rw [e,hb])).elim
   ·rw [da cj] at eA;exact hh.inj i j oi oj pi pj h1 (il j oj hj cj).1 bn eA e
 ·intro b hb;rw [hw.size];exact hh.slt b hb
 ·intro i q bn;rw [hw.size];by_cases hc:i=ct
  ·subst hc;rw [dc] at bn;injection bn with bn
   subst bn;rw [hb];exact hh.blt id p hm
  ·rw [da hc] at bn;exact hh.blt i q bn
 ·intro i q bn;by_cases hc:i=ct
  ·subst hc;rw [dc] at bn;injection bn with bn
   subst bn;rw [hb];exact hh.low id p hm
  ·rw [da hc] at bn;exact hh.low i q bn
 ·intro b hb
  rw [hw.other b (fun e=>by have:=hh.low id p hm;omega)];exact hh.iB b hb
 ·rw [hw.size];exact hh.eG
 ·intro b _ dn;exact hw.other b (fun e=>dn (e▸Be hg hm))
 ·rintro b ⟨i,q,pi,h1,h2,h3⟩;by_cases hc:i=ct
  ·subst hc;rw [dc] at h2;injection h2 with h2
   subst h2;exact .inl ⟨id,o,p,hg,hm,by rw [<-h3,hb]⟩
  ·rw [da hc] at h2;exact .inl ⟨i,q,pi,(il i q h1 hc).1,h2,h3⟩
def acj {P:yM} {e:yp} {s by':Nat} {z:AV} (hs:bQ P e=some s) (hb:pI P e=some by') (hz:jh P e=some z):
  ∃ti zv,P.info? e=some ti/\ti.size=s/\ti.bytes=by'/\ti.zero=some zv/\z=dl zv:=by
 unfold bQ at hs;unfold pI at hb;unfold jh at hz
 cases hi:P.info? e with
 | none=>simp [hi] at hs
 | some ti=>
  simp only [hi,yb] at hs hb hz
  cases fH:ti.zero with
  | none=>simp [fH] at hz
  | some zv=>
   grind
def AY {o:yL} {v:AV} {u:ye} {w':yg} {m':Mp} {S':Nat->Prop} {ai:Hp} {aK:Nat} (h1:(execOp a.eval o).run O.P w= .ok (.value u) w') (h2:aH O m' S' w' ai aK) (h3:af O.ae m' S' w' v u)
  (h4:cE m m') (h5:bH m S w hp m' S' w' ai ct):nH O m S w a hp ct o v ai aK:=⟨_,u,w',m',S',h1,.inl rfl,h2,h3,h4,h5⟩
def aaf {o:yL} {b':yp} {t u e:yp} {sz by':Nat} {z:AV} {x y:xh} {v:AV} {ai:Hp} {aK:Nat} (hH:dW O H) (ht:bJ O m S w tm a.tmps) (hh:aH O m S w hp ct)
  (dR:(execOp a.eval o).run O.P w=((do pure (.value (<-Builtin.append_ #[t,u] b' #[a.eval x,a.eval y])):Sem tT)).run O.P w)
  (pU:O.P.underlying t=some (.slice e)) (hu:(∃e',O.P.underlying u=some (.slice e'))\/O.P.underlying u=some .string) (hs:bQ O.P e=some sz) (hb:pI O.P e=some by') (hz:jh O.P e=some z) (zX:(cellsOf z).length=sz)
  (hv:b8 tm hp ct (.cC sz by' (aF H x) (aF H y))=some (v,ai,aK)):nH O m S w a hp ct o v ai aK:=by
 simp only [b8] at hv;obtain ⟨ti,zv,oc,rfl,rfl,Kd,rfl⟩:=acj hs hb hz;have bC:∀u' w',(Builtin.append_ #[t,u] b' #[a.eval x,a.eval y]).run O.P w= .ok u' w'->(execOp a.eval o).run O.P w= .ok (.value u') w':=fun u' w' h=>by
  rw [dR,Sem.run_bind,h];rfl
 have my:m ct=none:=by
  cases h:m ct with
  | none=>rfl
  | some q=>have:=hh.lt _ _ h;omega
 have CB:zv.cells.size=ti.size:=by
  have:=fI _ _ (sE (ae:=O.ae) (m:=m) (S:=S) (w:=w) zv)
  rw [<-zX,<-this];simp
 cases rC:nu hp ti.size (ao tm (aF H y)) with
 | none=>simp [rC] at hv
 | some q=>
  obtain ⟨n,new⟩:=q;simp only [rC] at hv;obtain ⟨news,eB,eC⟩:=Yz hh (bN hH ht y) rC;have Ke:=fI _ _ eB;have rx:=bN hH ht x
  cases hx:ao tm (aF H x) with
  | ab=>
   rw [hx] at hv rx;simp only at hv;simp only [af] at rx
   cases h0:yq n 0 with
   | true=>
    rw [h0] at hv;simp only [ym,yb,yi] at hv;obtain ⟨rfl,rfl,rfl⟩:=hv;have iE:=yk h0;subst iE;have I5:news=[]:=yP (by rw [eC.2.1];simp)
    subst I5;have hf:=eC.2.2 w rfl 0 (yC _);have mO:=eC.1 w;refine ⟨.value (.slice none 0 0),.slice none 0 0,w,m,S,?_,.inl rfl,hh,by simp [af],cE.refl,bH.refl⟩;rw [dR,rx];rcases hu with ⟨e',hu⟩ | hu<;>
     simp [Builtin.append_,run_underlying pU,run_underlying hu,vm,typeInfo,oc,mO,hf]
   | false=>
    rw [h0] at hv;simp only [yu] at hv
    cases hc:(yA n room&&(yA (n*ti.bytes) room&&yB 0 ti.size)) with
    | false=>rw [hc] at hv;cases hv
    | true=>
     rw [hc] at hv;simp only [ym,yb,yi] at hv;obtain ⟨rfl,rfl,rfl⟩:=hv;simp only [yf] at hc;have c1:=yr hc.1;have c2:=yr hc.2.1;simp only [room] at c1 c2;have iE:0<n:=by
      rcases xp n with h | h
      ·subst h;simp at h0
      ·exact h
     have hr:=GR (P:=O.P) (ty:=b') (w:=w) pU hu oc Kd (s:= .slice none 0 0) rfl (OT (P:=O.P) (size:=ti.size)) eC (by omega) (by omega) (by simpa using c2);simp only [yy,List.nil_append] at hr;have kX:=grownCap_ge w n 0 e;have mF:=Ht (e:=e) (z:=zv) (cap:=grownCap w n 0 e) hh eB (need:=n) (sz:=ti.size) eC.2.1 CB (ax new) (fun h=>h) kX;obtain ⟨k1,k2⟩:=Hu hh (hp0:=hp) (p:=⟨w.heap.size,0,grownCap w n 0 e*ti.size,ti.size⟩) (fun _ _ h=>h) rfl mF;exact AY (bC _ _ (by rw [rx];exact hr)) k1 (by simp only [af];exact ⟨_,_,dc,rfl,kX,by simp⟩) (gX my) k2
  | aC ex k cs=>
   rw [hx] at hv rx
   cases ex with
   | false=>simp at hv
   | true=>
    simp only at hv;have rx0:=rx;simp only [af] at rx;have rx1:∃ad jm,a.eval x= .slice (some ad) k k/\ak O.ae m S w cs jm/\jm.length=cs.length/\(∀(j:Nat) (u:ye),jm[j]? =some u->w.cell? (ad.add j)=some u)/\ax cs=true:=by
     rcases rx with ⟨bb,oo,c,ex,h1,h2,h3,h4,h5⟩ | ⟨ad,ex,rfl,rfl⟩
     ·have lW:c=k:=h2 (by trivial);subst lW;obtain ⟨jm,g1,g2,g3⟩:=nf cs bb oo h5;exact ⟨_,jm,ex,g1,g2,fun j u hj=>by rw [j8];exact g3 j u hj,h4⟩
     ·exact ⟨ad,[],ex,by simp [ak],rfl,fun j u hj=>by simp at hj,rfl⟩
    obtain ⟨ad,jm,ex,g1,g2,g3,h4⟩:=rx1
    cases h0:yq n 0 with
    | true=>
     rw [h0] at hv;simp only [ym,yb,yi] at hv;obtain ⟨rfl,rfl,rfl⟩:=hv;have iE:=yk h0;subst iE;have I5:news=[]:=yP (by rw [eC.2.1];simp)
     subst I5;have hf:=eC.2.2 w rfl 0 (yC _);have mO:=eC.1 w;refine ⟨.value (a.eval x),a.eval x,w,m,S,?_,.inl rfl,hh,rx0,cE.refl,bH.refl⟩;rw [dR,ex];rcases hu with ⟨e',hu⟩ | hu<;>
      simp [Builtin.append_,run_underlying pU,run_underlying hu,vm,typeInfo,oc,mO,hf,storeCells]
    | false=>
     rw [h0] at hv;simp only [yu] at hv
     cases hc:(yA (k+n) room&&(yA ((k+n)*ti.bytes) room&&(yq cs.length (k*ti.size)&&yB 0 ti.size))) with
     | false=>rw [hc] at hv;cases hv
     | true=>
      rw [hc] at hv;simp only [ym,yb,yi] at hv;obtain ⟨rfl,rfl,rfl⟩:=hv;simp only [yf] at hc;have c1:=yr hc.1;have c2:=yr hc.2.1;have c3:=yk hc.2.2.1;simp only [room] at c1 c2;have iE:0<n:=by
       rcases xp n with h | h
       ·subst h;simp at h0
       ·exact h
      have Kf:Src O.P w ti.size k jm (.slice (some ad) k k):=AP (by omega) g3;have hr:=GR (P:=O.P) (ty:=b') (w:=w) pU hu oc Kd rfl Kf eC (by omega) c1 c2;have kX:=grownCap_ge w (k+n) k e;have mF:=Ht (e:=e) (z:=zv) (cap:=grownCap w (k+n) k e) hh (iM g1 eB) (need:=k+n) (sz:=ti.size) (by rw [yW,g2,c3,eC.2.1,vd]) CB (ax cs&&ax new)
       (fun h=>by simp only [yf] at h;exact sF h.1 h.2) kX
      obtain ⟨k1,k2⟩:=Hu hh (hp0:=hp) (p:=⟨w.heap.size,0,grownCap w (k+n) k e*ti.size,ti.size⟩) (fun _ _ h=>h) rfl mF;exact AY (bC _ _ (by rw [ex];exact hr)) k1 (by simp only [af];exact ⟨_,_,dc,rfl,kX,by simp⟩) (gX my) k2
  | aq id o0 k=>
   rw [hx] at hv rx;simp only at hv;simp only [af] at rx;obtain ⟨p,c,hm,ex,h1,h2⟩:=rx
   split at hv
   case h_2=>cases hv
   rename_i pu FN zz cs hg
   cases hc:(yq zz ti.size&&(yA (k+n) room&&(yA ((k+n)*ti.bytes) room&&(yA (o0+k*ti.size) cs.length&&(yB 0 ti.size&&bT new))))) with
   | false=>rw [hc] at hv;cases hv
   | true=>
    rw [hc] at hv;simp only [ym,yb,yi] at hv;obtain ⟨rfl,rfl,rfl⟩:=hv;simp only [yf] at hc;have c0:=yk hc.1;have c1:=yr hc.2.1;have c2:=yr hc.2.2.1;have c3:=yr hc.2.2.2.1;have c4:=hc.2.2.2.2.2;simp only [room] at c1 c2;obtain ⟨p',arr,t',g1,g2,g3,g4,g5,g6,g7,g8,g9,g10⟩:=hh.obj id _ _ hg hm;rw [hm] at g1;injection g1 with g1
    subst g1;subst c0;rw [g3] at h2;have FO:bt O.ae m S w (slice o0 (k*ti.size) cs) p.b (p.o+o0):=qt _ _ _ _ (mh _ _ _ _ g7);obtain ⟨jm,f1,f2,f3⟩:=nf _ _ _ FO;have SY:(slice o0 (k*ti.size) cs).length=k*ti.size:=by simp only [slice,yK,wA];omega
    have mR:(pu&&ax new)=true->ax (slice o0 (k*ti.size) cs++new)=true:=fun h=>by
     simp only [yf] at h;exact sF (qh _ (oH _ _ (g8 h.1))) h.2
    by_cases zk:k+n<=c
    ·have fa:=DE eB c4;have Jr:p.o+o0+k*ti.size+news.length<=arr.size:=by
      rw [eC.2.1]
      have:(k+n)*ti.size<=c*ti.size:=xr _ zk
      rw [vd] at this;omega
     have hr:=WU (P:=O.P) (ty:=b') (w:=w) pU hu oc g2 eC fa zk Jr;have ho:∀m',cE m m'->m' ct=some ⟨p.b,p.o+o0,c*ti.size,ti.size⟩->
       dQ O m' S (w.setRow p.b (arr.toList.take (p.o+o0+k*ti.size)++news++arr.toList.drop (p.o+o0+k*ti.size+news.length)).toArray) ct
        (.cells true (pu&&ax new) false ti.size (slice o0 (k*ti.size) cs++new)):=by
      intro m' hle hi;have aQ:eh S w (w.setRow p.b (arr.toList.take (p.o+o0+k*ti.size)++news++arr.toList.drop (p.o+o0+k*ti.size+news.length)).toArray):=fun b hb=>setRow_other w p.b b _ (fun e=>g9 rfl (e▸hb))
      refine ⟨_,_,t',hi,setRow_heap w p.b arr _ t' _ g2,rfl,?_,?_,by simp,?_,mR,fun _=>g9 rfl,by simp⟩
      ·show (slice o0 (k*ti.size) cs++new).length<=c*ti.size
       rw [yW,SY,<-Ke,eC.2.1,<-vd];exact xr _ zk
      ·show p.o+o0+c*ti.size<=_
       rw [vM,yW,yW,yK,wA,wO];omega
      ·refine sP _ (jm++news) _ (iM (eV hle (fun _ h=>h) aQ _ _ f1) (eV hle (fun _ h=>h) aQ _ _ eB)) (fun j u hj=>?_);show World.cell? _ ⟨p.b,p.o+o0+j,none⟩=some u
       simp only [World.cell?,setRow_heap w p.b arr _ t' _ g2,uO,yt,yG];rw [uG];have e1:(arr.toList.take (p.o+o0+k*ti.size)).length=p.o+o0+k*ti.size:=by rw [yK,wO];omega
       by_cases J6:j<k*ti.size
       ·rw [xx (by omega)] at hj;rw [xg,xx (by omega),w5 (by omega)]
        have:=f3 j u hj
        simpa [World.cell?,g2] using this
       ·rw [xj (by omega)] at hj;have U6:=(List.getElem?_eq_some_iff.1 hj).1;rw [xg,xj (by omega),e1,xx (by omega),show p.o+o0+j-(p.o+o0+k*ti.size)=j-jm.length by omega];exact hj
     obtain ⟨k1,k2⟩:=YA (p':=⟨p.b,p.o+o0,c*ti.size,ti.size⟩) hh hg hm (g9 rfl) (G7 w p.b _) (fun r hr=>by rw [g2] at hr;cases hr) rfl ho;exact AY (bC _ _ (by rw [ex];exact hr)) k1 (by simp only [af];exact ⟨_,c,dc,rfl,zk,by simp⟩) (gX my) k2
    ·have Kf:Src O.P w ti.size k jm (.slice (some ⟨p.b,p.o+o0,none⟩) k c):=AP (by omega) (fun j u hj=>by rw [j8];exact f3 j u hj)
     have hr:=GR (P:=O.P) (ty:=b') (w:=w) pU hu oc Kd rfl Kf eC (by omega) c1 c2;have kX:=grownCap_ge w (k+n) c e;have mF:=Ht (e:=e) (z:=zv) (cap:=grownCap w (k+n) c e) hh (iM f1 eB) (need:=k+n) (sz:=ti.size) (by rw [yW,f2,SY,eC.2.1,vd]) CB (pu&&ax new) mR kX;obtain ⟨k1,k2⟩:=Hu hh (hp0:=cp hp id) (p:=⟨w.heap.size,0,grownCap w (k+n) c e*ti.size,ti.size⟩) (fun i q h=>by
      rw [AO] at h;by_cases hi:id=i
      ·simp [hi] at h
      ·simpa only [hi,yG] using h) rfl mF
     exact AY (bC _ _ (by rw [ex];exact hr)) k1 (by simp only [af];exact ⟨_,_,dc,rfl,kX,by simp⟩) (gX my) k2
  | _=>rw [hx] at hv;simp at hv
end
end
section
open Go
section
variable {O:aZ} {H:Hint} {m:Mp} {S:Nat->Prop} {w:yg} {tm:Env} {a:Act} {hp:Hp} {ct:Nat}
def W5 {n:Nat} {cs:List AV} (h:ax cs=true):ax (cs.take n)=true:=qh n h
def Ln:∀(n:Nat) {cs:List AV},bT cs=true->bT (cs.take n)=true
 | 0,_,_=>by simp [bT]
 | n+1,[],_=>by simp [bT]
 | n+1,c::cs,h=>by
  simp only [List.take_succ_cons,bT,yf] at h ⊢;exact ⟨h.1,Ln n h.2⟩
def aag {o:yL} {b':yp} {t u e:yp} {sz:Nat} {x y:xh} {v:AV} {ai:Hp} {aK:Nat} (hH:dW O H) (ht:bJ O m S w tm a.tmps) (hh:aH O m S w hp ct)
  (dR:(execOp a.eval o).run O.P w=((do pure (.value (<-Builtin.copy_ #[t,u] b' #[a.eval x,a.eval y])):Sem tT)).run O.P w)
  (pU:O.P.underlying t=some (.slice e)) (hs:bQ O.P e=some sz)
  (hv:b8 tm hp ct (.kR sz (aF H x) (aF H y))=some (v,ai,aK)):nH O m S w a hp ct o v ai aK:=by
 simp only [b8] at hv
 cases rC:lD hp sz (ao tm (aF H y)) with
 | none=>simp [rC] at hv
 | some q=>
  obtain ⟨n,new⟩:=q;simp only [rC] at hv;obtain ⟨news,eB,eC⟩:=L9 hh (bN hH ht y) rC;have Ke:=fI _ _ eB;have rx:=bN hH ht x;cases hx:ao tm (aF H x)<;>rw [hx] at hv rx<;>simp only [reduceCtorEq] at hv
  rename_i id o0 k;simp only [af] at rx;obtain ⟨p,c,hm,ex,h1,h2⟩:=rx
  split at hv
  case h_2=>cases hv
  rename_i pu FN zz cs hg
  cases hc:(yq zz sz&&(yA (o0+k*sz) cs.length&&bT new)) with
  | false=>rw [hc] at hv;cases hv
  | true=>
   rw [hc] at hv;simp only [ym,yb,yi] at hv;obtain ⟨rfl,rfl,rfl⟩:=hv;simp only [yf] at hc;have c0:=yk hc.1;have c1:=yr hc.2.1;subst c0;obtain ⟨p',arr,t',g1,g2,g3,g4,g5,g6,g7,g8,g9,g10⟩:=hh.obj id _ _ hg hm;rw [hm] at g1;injection g1 with g1
   subst g1;have amO:min n k*zz<=k*zz:=xr _ (Nat.min_le_right _ _);have amF:min n k*zz<=n*zz:=xr _ (tZ _ _);have rt:=sO (min n k*zz) eB;have U7:(news.take (min n k*zz)).length=min n k*zz:=by rw [yK,eC.2.1];omega
   have amP:(new.take (min n k*zz)).length=min n k*zz:=by rw [yK,<-Ke,eC.2.1];omega
   have fa:=DE rt (Ln _ hc.2.2);have hf:=eC.2.2 w rfl (min n k) (tZ _ _);have aQ:=run_storeCells_at O.P p.b (p.o+o0) t' (news.take (min n k*zz)) 0 arr w g2 (by rw [U7];omega) fa;simp only [xS] at aQ;have lV:dQ O m S (w.setRow p.b (arr.toList.take (p.o+o0)++news.take (min n k*zz)++arr.toList.drop (p.o+o0+(news.take (min n k*zz)).length)).toArray) id
     (.cells true (pu&&ax new) FN zz (over o0 (new.take (min n k*zz)) cs)):=by
    refine ⟨p,_,t',hm,setRow_heap w p.b arr _ t' _ g2,g3,by rw [DW (by omega)];exact g4,?_,fun h=>by rw [DW (by omega)];exact g6 h,?_,?_,fun _=>g9 rfl,by simp⟩
    ·rw [vM,yW,yW,yK,wA,wO,U7];omega
    ·exact NQ g2 g7 rt (by omega) (by omega) cE.refl (fun _ h=>h) (fun b hb=>setRow_other w p.b b _ (fun e=>g9 rfl (e▸hb))) (setRow_heap w p.b arr _ t' _ g2)
    ·intro h;simp only [yf] at h;exact L7 (g8 h.1) (W5 h.2)
   obtain ⟨e1,e2⟩:=AX hh hg hm (g9 rfl) (G7 w p.b _) lV (fun r hr=>by rw [g2] at hr;cases hr)
   refine AY (u:=goInt ((min n k:Nat):Int)) (m':=m) (S':=S) ?_ e1 (by simp [af,goInt]) cE.refl e2;rw [dR,ex];simp [Builtin.copy_,run_underlying pU,eC.1 w,jw hs,show Nat.min n k=min n k from rfl,hf,aQ]
def ack {o:yL} {k:Nat} {v:AV} {ai:Hp} {aK:Nat} (hH:dW O H) (ht:bJ O m S w tm a.tmps) (hh:aH O m S w hp ct)
  (hv:b8 tm hp ct (aV O.P H k o)=some (v,ai,aK)):nH O m S w a hp ct o v ai aK:=by
 have iT:∀{r:AV×Hp×Nat},b8 tm hp ct bad=some r->False:=fun h=>by simp [bad,b8] at h
 cases ho:o.op with
 | call c=>
  obtain ⟨callee,args,ts⟩:=c;simp only [aV,ho] at hv
  split at hv
  ·cases J5:H.mode k<;>simp [J5,b8] at hv
  ·rename_i _ b
   split at hv
   ·rename_i x y t u fC pP;obtain ⟨al⟩:=args;obtain ⟨tl⟩:=ts;simp only at fC pP;subst fC;subst pP;obtain ⟨cs,dR⟩:=AA (O:=O) (w:=w) (a:=a) ho;have I6:(execOp a.eval o).run O.P w=((do pure (.value (<-Builtin.append_ #[t,u] o.type #[a.eval x,a.eval y])):Sem tT)).run O.P w:=by
     rw [dR];simp [builtin]
    have key:∀{z:AV} {sz by':Nat} {e:yp},O.P.underlying t=some (.slice e)->((∃e',O.P.underlying u=some (.slice e'))\/O.P.underlying u=some .string)->bQ O.P e=some sz->pI O.P e=some by'->jh O.P e=some z->
      b8 tm hp ct (bif yq (cellsOf z).length sz then .cC sz by' (aF H x) (aF H y) else bad)=some (v,ai,aK)->nH O m S w a hp ct o v ai aK:=by
     intro z sz by' e h1 h2 h3 h4 h5 h
     cases hb:yq (cellsOf z).length sz with
     | false=>rw [hb] at h;exact (iT h).elim
     | true=>
      rw [hb] at h;exact aaf hH ht hh I6 h1 h2 h3 h4 h5 (yk hb) h
    split at hv
    ·rename_i e e' h1 h2
     split at hv
     ·rename_i sz by' z h3 h4 h5
      exact key h1 (.inl ⟨_,h2⟩) h3 h4 h5 hv
     ·exact (iT hv).elim
    ·rename_i e h1 h2
     split at hv
     ·rename_i sz by' z h3 h4 h5
      exact key h1 (.inr h2) h3 h4 h5 hv
     ·exact (iT hv).elim
    ·exact (iT hv).elim
   ·repeat' split at hv
    all_goals simp [b8,bad] at hv
   ·rename_i x y t u fC pP;obtain ⟨al⟩:=args;obtain ⟨tl⟩:=ts;simp only at fC pP;subst fC;subst pP;obtain ⟨cs,dR⟩:=AA (O:=O) (w:=w) (a:=a) ho;have I6:(execOp a.eval o).run O.P w=((do pure (.value (<-Builtin.copy_ #[t,u] o.type #[a.eval x,a.eval y])):Sem tT)).run O.P w:=by
     rw [dR];simp [builtin]
    split at hv
    ·rename_i e h1
     split at hv
     ·rename_i sz h3;exact aag hH ht hh I6 h1 h3 hv
     ·exact (iT hv).elim
    ·exact (iT hv).elim
   ·simp [b8] at hv
   ·simp [b8] at hv
   ·exact (iT hv).elim
  ·exact (iT hv).elim
 | store t x y=>
  simp only [aV,ho] at hv
  split at hv
  ·rename_i s hs;exact acg hH ht hh ho hs hv
  ·exact (iT hv).elim
 | mapUpdate t x k y=>
  simp only [aV,ho] at hv
  split at hv
  ·rename_i kt e hu
   split at hv
   ·rename_i kk rW;exact NR hH ht hh (.inl ho) hu rW hv
   ·exact (iT hv).elim
  ·exact (iT hv).elim
 | insert t x k y=>
  simp only [aV,ho] at hv
  split at hv
  ·rename_i kt e hu
   split at hv
   ·rename_i kk rW;exact NR hH ht hh (.inr ho) hu rW hv
   ·exact (iT hv).elim
  ·exact (iT hv).elim
 | next x b=>
  cases b with
  | false=>simp only [aV,ho] at hv;exact (iT hv).elim
  | true=>exact aae hH ht hh ho (by simpa only [aV,ho] using hv)
 | binOp op t x y ty=>
  cases op<;>simp only [aV,ho,mv,nl] at hv
  case eql=>
        repeat' split at hv
        all_goals first
         | (simp [b8,bad] at hv;done)
         | (cases hb:(O.P.stoodInHeld t||O.P.eqGuardType O.P.depth t)<;>rw [hb] at hv<;>simp [b8,bad] at hv)
  case neq=>
        repeat' split at hv
        all_goals first
         | (simp [b8,bad] at hv;done)
         | (cases hb:(O.P.stoodInHeld t||O.P.eqGuardType O.P.depth t)<;>rw [hb] at hv<;>simp [b8,bad] at hv)
  all_goals simp [b8] at hv
 | buildSlice t n parts=>
  simp only [aV,ho] at hv
  repeat' split at hv
  all_goals first
   | (simp [b8,bad] at hv;done)
   | (
     revert hv;generalize yA _ _=bb;intro hv;cases bb<;>simp [b8,bad] at hv
     try (split at hv<;>simp [b8,bad] at hv))
 | makeMap t r=>
  cases r<;>simp only [aV,ho] at hv
  ·repeat' split at hv
   all_goals simp [b8,bad] at hv
  ·exact (iT hv).elim
 | _=>
  simp only [aV,ho] at hv
  (repeat' split at hv)
  all_goals first
   | contradiction
   | (simp [b8,bad] at hv;done)
end
end
section
section
variable {hp H:Hp} {tm tm':Env}
def OU (hl:cr hp H) {id:Nat} {rw pu ex:Bool} {sz:Nat} {cs:List AV} (h:aj hp id=some (.cells rw pu ex sz cs)):∃dJ,aj H id=some (.cells dJ pu ex sz cs):=by
 obtain ⟨o',h1,dJ,rfl,_⟩:=hl id _ h;exact ⟨dJ,h1⟩
def OV (hl:cr hp H) {id:Nat} {rw:Bool} {ks vs:List AV} (h:aj hp id=some (.mp rw ks vs)):∃dJ,aj H id=some (.mp dJ ks vs):=by
 obtain ⟨o',h1,dJ,rfl,_⟩:=hl id _ h;exact ⟨dJ,h1⟩
def OW (hl:cr hp H) {sz:Nat} {ag:Bool} {x v:AV} (h:fT hp sz ag x=some v):fT H sz ag x=some v:=by
 cases x<;>simp only [fT,reduceCtorEq] at h ⊢
 ·rename_i id o
  cases hg:aj hp id with
  | none=>simp [hg] at h
  | some ob=>
   cases ob<;>simp only [hg,reduceCtorEq] at h
   obtain ⟨r,h1⟩:=OU hl hg;simp only [h1];exact h
 ·exact h
def aah (hl:cr hp H) {k x:AV} {v:Option AV} (h:o7 hp k x=some v):o7 H k x=some v:=by
 cases x<;>simp only [o7,reduceCtorEq] at h ⊢
 ·exact h
 ·rename_i id
  cases hg:aj hp id with
  | none=>simp [hg] at h
  | some ob=>
   cases ob<;>simp only [hg,reduceCtorEq] at h
   obtain ⟨r,h1⟩:=OV hl hg;simp only [h1];exact h
 ·exact h
def aai (hl:cr hp H) {k:Nat} {x v:AV} (h:eY hp k x=some v):eY H k x=some v:=by
 unfold eY at h ⊢
 split at h
 all_goals first
  | exact h
  | cases h
  | skip
 rename_i id
 cases hg:aj hp id with
 | none=>simp [hg] at h
 | some ob=>
  cases ob<;>simp only [hg,reduceCtorEq] at h
  obtain ⟨r,h1⟩:=OV hl hg;simp only [h1];exact h
def aaj (hl:cr hp H) {k:Cut} {x v:AV} {lo hi:Option X} (h:fg hp k x tm lo hi=some v):fg H k x tm lo hi=some v:=by
 unfold fg at h ⊢
 split at h
 all_goals first
  | exact h
  | cases h
  | skip
 rename_i sz id o n
 cases hg:aj hp id with
 | none=>simp [hg] at h
 | some ob=>
  cases ob<;>simp only [hg,reduceCtorEq] at h
  obtain ⟨r,h1⟩:=OU hl hg;simp only [h1];exact h
def YB (hl:cr hp H) {o:Op} {v:AV} (h:bc tm hp o=some v):bc tm H o=some v:=by
 cases o<;>simp only [bc,reduceCtorEq] at h ⊢<;>first
  | exact h
  | exact OW hl h
  | exact aai hl h
  | exact aaj hl h
  | skip
 rename_i kk zero ok m k
 cases hk:nk kk (ao tm k) with
 | false=>rw [hk] at h;cases h
 | true=>
  rw [hk] at h;simp only [ym] at h ⊢
  cases hr:o7 hp (ao tm k) (ao tm m) with
  | none=>simp [hr] at h
  | some r=>rw [aah hl hr];simpa only [hr] using h
def YC {o:Op} (hk:bf o=0) (hp H:Hp):bc tm hp o=bc tm H o:=by
 cases o with
 | cV k x lo hi=>
  cases k with
  | str=>simp only [bc,fg];cases ao tm x<;>rfl
  | sl sz=>simp [bf] at hk
  | ar n sz=>simp [bf] at hk
 | len k x=>
  match k,hk with
  | 0,_=>simp only [bc];unfold eY;split<;>simp_all
  | 1,_=>simp only [bc];unfold eY;split<;>simp_all
  | k+2,hk=>simp [bf] at hk
 | call md f xs=>cases md<;>simp [bf] at hk
 | _=>first
  | rfl
  | simp [bf] at hk
end
section
variable {tm tm':Env}
def cT {x:X} (h:∀t,t∈gh x->ah tm' t=ah tm t):ao tm' x=ao tm x:=by
 cases x with
 | t i=>exact h i (by simp [gh])
 | c v=>rfl
def qu:∀{xs:List X},(∀t,t∈nv xs->ah tm' t=ah tm t)->cx tm' xs=cx tm xs
 | [],_=>rfl
 | x::r,h=>by
  simp only [cx]
  rw [cT (x:=x) (fun t ht=>h t (by simp [nv,ht])),qu (fun t ht=>h t (by simp [nv,ht]))]
def Hv:∀{ps:List (Nat×Nat×X)} {z:List AV},(∀t,t∈BH ps->ah tm' t=ah tm t)->fill tm' z ps=fill tm z ps
 | [],_,_=>rfl
 | (o,s,x)::r,z,h=>by
  simp only [fill]
  rw [cT (x:=x) (fun t ht=>h t (by simp [BH,ht]))]
  rw [Hv (ps:=r) (fun t ht=>h t (by simp [BH,ht]))]
def Ma {d:Nat} {x:Option X} (h:∀t,t∈BG x->ah tm' t=ah tm t):cI tm' d x=cI tm d x:=by
 cases x with
 | none=>rfl
 | some x=>simp only [cI];rw [cT h]
def XF {hp:Hp} {k:Cut} {x:AV} {lo hi:Option X} (h1:∀t,t∈BG lo->ah tm' t=ah tm t) (h2:∀t,t∈BG hi->ah tm' t=ah tm t):
  fg hp k x tm' lo hi=fg hp k x tm lo hi:=by
 unfold fg;simp only [Ma h1,Ma h2]
def W6 {hp:Hp} {o:Op} (h:∀t,t∈gZ o->ah tm' t=ah tm t):bc tm' hp o=bc tm hp o:=by
 cases o<;>simp only [gZ,xR] at h<;>simp only [bc]
 case pick c a b=>rw [cT (x:=c) fun t ht=>h t (.inl ht),cT (x:=a) fun t ht=>h t (.inr (.inl ht)),cT (x:=b) fun t ht=>h t (.inr (.inr ht))]
 case df z ps=>rw [Hv h]
 case jr f a b=>rw [qu (xs:=a) fun t ht=>h t (.inl ht),qu (xs:=b) fun t ht=>h t (.inr ht)]
 case cV k x lo hi=>rw [cT (x:=x) fun t ht=>h t (.inl ht),XF (fun t ht=>h t (.inr (.inl ht))) (fun t ht=>h t (.inr (.inr ht)))]
 case mn xs=>rw [qu h]
 case mx xs=>rw [qu h]
 case bin op x y=>rw [cT (x:=x) fun t ht=>h t (.inl ht),cT (x:=y) fun t ht=>h t (.inr ht)]
 case eq n k x y=>rw [cT (x:=x) fun t ht=>h t (.inl ht),cT (x:=y) fun t ht=>h t (.inr ht)]
 case a7 s x y=>rw [cT (x:=x) fun t ht=>h t (.inl ht),cT (x:=y) fun t ht=>h t (.inr ht)]
 case zU l s x y=>rw [cT (x:=x) fun t ht=>h t (.inl ht),cT (x:=y) fun t ht=>h t (.inr ht)]
 case ik x y=>rw [cT (x:=x) fun t ht=>h t (.inl ht),cT (x:=y) fun t ht=>h t (.inr ht)]
 case pE l s g x y=>rw [cT (x:=x) fun t ht=>h t (.inl ht),cT (x:=y) fun t ht=>h t (.inr ht)]
 case FJ kk z ok x y=>rw [cT (x:=x) fun t ht=>h t (.inl ht),cT (x:=y) fun t ht=>h t (.inr ht)]
 all_goals first
  | rfl
  | (rename_i x;rw [cT (x:=x) h])
def AB {hp ai:Hp} {ct:Nat} {o:Op} (h:∀t,t∈gZ o->ah tm' t=ah tm t):bV tm' ai ct o=bV tm hp ct o:=by
 cases o<;>simp only [gZ,xR] at h<;>simp only [bV]
 case box s x=>rw [cT (x:=x) h]
 case cd n s z ps=>rw [Hv h]
 case eT s b z x y=>rw [cT (x:=x) fun t ht=>h t (.inl ht),cT (x:=y) fun t ht=>h t (.inr ht)]
 case kP x=>rw [cT (x:=x) h]
def sG {hp:Hp} {ct:Nat} {o:Op} (h:∀t,t∈gZ o->ah tm' t=ah tm t):b8 tm' hp ct o=b8 tm hp ct o:=by
 cases o<;>simp only [gZ,xR] at h<;>simp only [b8]
 case st s x y=>rw [cT (x:=x) fun t ht=>h t (.inl ht),cT (x:=y) fun t ht=>h t (.inr ht)]
 case kO kk c a b=>rw [cT (x:=c) fun t ht=>h t (.inl ht),cT (x:=a) fun t ht=>h t (.inr (.inl ht)),cT (x:=b) fun t ht=>h t (.inr (.inr ht))]
 case kQ x=>rw [cT (x:=x) h]
 case cC s b x y=>rw [cT (x:=x) fun t ht=>h t (.inl ht),cT (x:=y) fun t ht=>h t (.inr ht)]
 case kR s x y=>rw [cT (x:=x) fun t ht=>h t (.inl ht),cT (x:=y) fun t ht=>h t (.inr ht)]
end
end
end VE
