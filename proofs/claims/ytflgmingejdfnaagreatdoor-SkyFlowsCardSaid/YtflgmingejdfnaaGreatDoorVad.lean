import Derived.Laws.CopyOwn
import Derived.Test.YtflgmingejdfnaaGreatDoorVac
set_option linter.all false
set_option maxRecDepth 100000
open Array renaming length_toList→vH
open Bool renaming and_eq_true→yf,false_eq_true→yC
open Go renaming Loop→uf,MapEntry→ui,Next→yaE,Obj→ybc,Oper→yY,Operand→xB,Program→y5,TypeDesc→vl,TypeId→yx,TypeInfo→ybP,Value→ye,World→yh,sizeOf→vX
open List renaming append_assoc→xu,cons_append→y8,eq_nil_of_length_eq_zero→yN,ext_getElem?→yah,getElem?_append_left→xQ,getElem?_append_right→xE,getElem?_drop→yab,getElem?_take_of_lt→vQ,getElem?_toArray→tA,length_append→yQ,length_drop→wu,length_take→yT,map_cons→y9,mem_append→wQ,size_toArray→ux,take_of_length_le→yL
open Nat renaming add_mul→wG,add_zero→yX,beq→yr,beq_refl→xo,ble→yE,blt→yG,eq_of_beq_eq_true→yo,eq_zero_or_pos→xr,le_of_ble_eq_true→yt,le_refl→yD,min_le_left→yaJ,mul_le_mul_right→yZ,zero_add→yd
open Option renaming isSome_none→tK
open Option.some renaming injEq→yc
open Prod.mk renaming injEq→yk
open UInt8 renaming toNat→yW
namespace VE
section
open Go
section
variable {O:bw} {H:Hint} {m:Mp} {S:Nat->Prop} {w:yh} {tm:Env} {a:Act} {hp:Hp} {ct:Nat}
structure One (w w':yh) (g:Nat):Prop where
 os:w'.os=w.os
 tape:w'.tape=w.tape
 output:w'.output=w.output
 size:w'.heap.size=w.heap.size
 other:∀b,b≠g->w'.heap[b]? =w.heap[b]?
def PI (w:yh) (g:Nat) (cs:Array ye):One w (w.setRow g cs) g:=
 ⟨rfl,rfl,rfl,by simp,fun b hb=>setRow_other w g b cs hb⟩
def HT {id:Nat} {o:Obj} {p:Pl} (h:ap hp id=some o) (hm:m id=some p):ej m hp p.b:=⟨id,o,p,h,hm,rfl⟩
def aln {id:Nat} {o':Obj} {b:Nat} (h:ej m (aY hp id o') b):ej m hp b:=by
 obtain ⟨i,o,p,h1,h2,h3⟩:=h;rw [qQ] at h1;by_cases hi:id=i
 ·subst hi
  cases hq:ap hp id with
  | none=>simp [hq] at h1
  | some q=>exact ⟨id,q,p,hq,h2,h3⟩
 ·simp only [hi,yR] at h1;exact ⟨i,o,p,h1,h2,h3⟩
def Hr (hh:aZ O m S w hp ct) {id:Nat} {o o':Obj} {p:Pl} {w':yh} (ho:ap hp id=some o) (hm:m id=some p) (hn:¬S p.b) (hw:One w w' p.b) (h':fB O m S w' id o') (hk:∀r:uf,w.heap[p.b]? =some (.loop r)->∃r':uf,w'.heap[p.b]? =some (.loop r')):
  aZ O m S w' (aY hp id o') ct/\cu m S w hp m S w' (aY hp id o') ct:=by
 have bf:fO S w w':=fun b hb=>hw.other b (fun e=>hn (e▸hb))
 refine ⟨⟨?_,hh.lt,?_,?_,?_,hh.low,?_,?_,fun i q hq=>(by
  rw [qQ] at hq;by_cases hc:id=i
  ·subst hc;exact hh.bi _ _ ho
  ·simp only [hc,yR] at hq;exact hh.bi _ _ hq)⟩,⟨hw.os,hw.tape,hw.output,by rw [hw.size];exact yD _,?_,fun _ h=>h,fun b hb=>bf b hb,fun b hb=> .inl hb,fun b hb=> .inl (aln hb),fun _ _ _ h=>h,fun b r hb=>?_⟩⟩
 rotate_right
 ·by_cases hc:b=p.b
  ·subst hc;exact hk r hb
  ·exact ⟨r,(hw.other b hc).trans hb⟩
 ·intro i q pi hi bM;rw [qQ] at hi;by_cases hc:id=i
  ·subst hc;simp only [y7,ho,Option.isSome_some] at hi;injection hi with hi
   subst hi;exact h'
  ·simp only [hc,yR] at hi;refine qP (fun _ _ h=>h) (fun _ h=>h) bf (fun q' cf=>?_) (fun _ _ h=>h) (hh.obj i q pi hi bM);exact hw.other _ (fun e=>hc (hh.inj i id q o q' p hi ho cf hm e).symm)
 ·intro i j oi oj pi pj hi hj bM fW e;have key:∀{i:Nat} {oi:Obj},ap (aY hp id o') i=some oi->∃JE,ap hp i=some JE:=by
   intro i oi hi;rw [qQ] at hi;by_cases hc:id=i
   ·subst hc;exact ⟨o,ho⟩
   ·simp only [hc,yR] at hi;exact ⟨oi,hi⟩
  obtain ⟨JE,cz⟩:=key hi;obtain ⟨JD,qj⟩:=key hj;exact hh.inj i j JE JD pi pj cz qj bM fW e
 ·intro b hb;rw [hw.size];exact hh.slt b hb
 ·intro i q hq;rw [hw.size];exact hh.blt i q hq
 ·intro b hb
  rw [hw.other b (fun e=>by have:=hh.low id p hm;omega)];exact hh.lE b hb
 ·rw [hw.size];exact hh.fP
 ·intro b _ hb;exact hw.other b (fun e=>hb (e▸HT ho hm))
def zf (O:bw) (m:Mp) (S:Nat->Prop) (w:yh) (a:Act) (hp:Hp) (ct:Nat) (o:yY) (v:AV) (ao:Hp) (bh:Nat):Prop:=
 ∃n u w' m' S',(execOp a.eval o).run O.P w= .ok n w'/\(n= .value u\/(n= .skip/\u=undef))/\aZ O m' S' w' ao bh/\aj O.ah m' S' w' v u/\dI m m'/\cu m S w hp m' S' w' ao ct
def alo {ah:Nat->Nat} {v:AV} {u:ye} (h:aj ah m S w v u) (ho:bA v=true):u.oneCell'=true:=by
 cases v with
 | fn f a b=>
  cases f with
  | f g=>simp only [aj] at h;obtain ⟨_,_,rfl,_⟩:=h;rfl
  | y l=>simp only [aj] at h;obtain ⟨_,_,rfl⟩:=h;rfl
 | int k n=>simp only [aj] at h;subst h;rfl
 | bool b=>simp only [aj] at h;subst h;rfl
 | dB k n=>simp only [aj] at h;subst h;rfl
 | str s=>simp only [aj] at h;obtain ⟨_,rfl,_⟩:=h;rfl
 | jT=>simp only [aj] at h;subst h;rfl
 | ptr i k=>simp only [aj] at h;obtain ⟨_,_,rfl⟩:=h;rfl
 | aF cs=>simp only [aj] at h;obtain ⟨_,_,rfl,_⟩:=h;rfl
 | ab=>simp only [aj] at h;subst h;rfl
 | aE e n cs=>simp only [aj] at h;rcases h with ⟨_,_,_,rfl,_⟩ | ⟨_,rfl,_,_⟩<;>rfl
 | cG _ _ _ _=>simp [bA] at ho
 | ak i k n=>simp only [aj] at h;obtain ⟨_,_,_,rfl,_⟩:=h;rfl
 | hO=>simp only [aj] at h;subst h;rfl
 | jz=>simp only [aj] at h;subst h;rfl
 | map i=>simp only [aj] at h;obtain ⟨_,_,rfl⟩:=h;rfl
 | jf ks vs=>simp only [aj] at h;obtain ⟨_,_,_,rfl,_⟩:=h;rfl
 | it i=>simp only [aj] at h;obtain ⟨_,_,rfl⟩:=h;rfl
 | agg cs=>simp [bA] at ho
 | aq cs=>simp [bA] at ho
 | undef=>simp [bA] at ho
def K2 {ah:Nat->Nat}:∀{vs:List AV} {us:List ye},au ah m S w vs us->bQ vs=true->∀u∈us,u.oneCell'=true
 | [],us,h,_,u,hu=>by simp only [au] at h;subst h;cases hu
 | v::r,us,h,ho,u,hu=>by
  obtain ⟨u',t,rfl,h1,h2⟩:=h;simp only [bQ,yf] at ho;rcases List.mem_cons.1 hu with rfl | hu
  ·exact alo h1 ho.1
  ·exact K2 h2 ho.2 u hu
def Zx {arr:Array ye} {t:yx} {p:Pl} {cs new:List AV} {vs:List ye} {o:Nat} {S':Nat->Prop} {m':Mp} (hb:w.heap[p.b]? =some (.cells arr t (0,0))) (hr:bT O.ah m S w cs p.b p.o)
  (hv:au O.ah m S w new vs) (hl:o+new.length<=cs.length) (hs:p.o+cs.length<=arr.size) {w':yh} (hm:dI m m') (hS:∀b,S b->S' b) (bf:fO S w w')
  (hw:w'.heap[p.b]? =some (.cells (arr.toList.take (p.o+o)++vs++arr.toList.drop (p.o+o+vs.length)).toArray t (0,0))):bT O.ah m' S' w' (over o new cs) p.b p.o:=by
 obtain ⟨us,h1,h2,h3⟩:=sE cs p.b p.o hr;have hvl:=iF _ _ hv;have h4:au O.ah m S w (over o new cs) (us.take o++vs++us.drop (o+new.length)):=lU (lU (DN o h1) hv) (Hf _ h1);refine DS _ _ _ (gT hm hS bf _ _ h4) (fun j u hj=>?_);have ri:∀k u,us[k]? =some u->arr[p.o+k]? =some u:=by
  intro k u hk
  have:=h3 k u hk
  simpa [World.cell?,hb] using this
 simp only [World.cell?,hw,tK,yC,yR];rw [tA];have e1:(arr.toList.take (p.o+o)).length=p.o+o:=by rw [yT,vH];omega
 have e2:(us.take o).length=o:=by rw [yT];omega
 by_cases c1:j<o
 ·have g1:(us.take o++vs++us.drop (o+new.length))[j]? =us[j]? :=by
   rw [xu,xQ (by omega),vQ c1]
  rw [g1] at hj;rw [xu,xQ (by omega),vQ (by omega)];simpa using ri j u hj
 ·by_cases c2:j<o+vs.length
  ·have g1:(us.take o++vs++us.drop (o+new.length))[j]? =vs[j-o]? :=by
    rw [xu,xE (by omega),e2,xQ (by omega)]
   rw [g1] at hj;rw [xu,xE (by omega),e1,xQ (by omega),show p.o+j-(p.o+o)=j-o by omega];exact hj
  ·have g1:(us.take o++vs++us.drop (o+new.length))[j]? =us[j]? :=by
    rw [xu,xE (by omega),e2,xE (by omega),yab]
    congr 1
    omega
   rw [g1] at hj;rw [xu,xE (by omega),e1,xE (by omega),yab,show p.o+o+vs.length+(p.o+j-(p.o+o)-vs.length)=p.o+j by omega];simpa using ri j u hj
def Lk {o:Nat} {new cs:List AV} (hl:o+new.length<=cs.length):(over o new cs).length=cs.length:=by
 simp only [over,yQ,yT,wu];omega
def XL {o:Nat} {new cs:List AV} (h:aJ cs=true) (h':aJ new=true):aJ (over o new cs)=true:=
 DF (DF (B5 _ h) h') (Aw _ _ h)
def anN {o:yY} {t:yx} {x y:xB} {sz:Nat} {v:AV} {ao:Hp} {bh:Nat} (hH:fF O H) (ht:cp O m S w tm a.tmps) (hh:aZ O m S w hp ct)
  (ho:o.op= .store t x y) (hz:cP O.P t=some sz) (hv:dc tm hp ct (.st sz (aR H x) (aR H y))=some (v,ao,bh)):zf O m S w a hp ct o v ao bh:=by
 simp only [dc] at hv;have rx:=cF hH ht x;cases hx:az tm (aR H x)<;>rw [hx] at hv rx<;>simp only [reduceCtorEq] at hv
 rename_i id k;simp only [aj] at rx;obtain ⟨p,hm,ex⟩:=rx
 split at hv
 case h_2=>cases hv
 rename_i pu Ob z cs hg
 cases hc:(yr (cellsOf (az tm (aR H y))).length sz&&yE (k+sz) cs.length&&bQ (cellsOf (az tm (aR H y)))) with
 | false=>rw [hc] at hv;cases hv
 | true=>
  rw [hc] at hv;simp only [ym,yc,yk] at hv;obtain ⟨rfl,rfl,rfl⟩:=hv;simp only [yf] at hc;have c1:=yo hc.1.1;have c2:=yt hc.1.2;have ry:=PY (cF hH ht y) hc.2;have hl:=iF _ _ ry;obtain ⟨p',arr,t',g1,g2,g3,g4,g5,g6,g7,g8,g9,g10⟩:=hh.obj id _ _ hg hm;rw [hm] at g1;injection g1 with g1
  subst g1;have fH:=K2 ry hc.2;have fC:=run_storeCells_at O.P p.b (p.o+k) t' (a.eval y).cells.toList 0 arr w g2 (by rw [hl];omega) fH;simp only [yX] at fC;have aso:(a.eval y).cells.size=sz:=by simp_all
  have nU:fB O m S (w.setRow p.b (arr.toList.take (p.o+k)++(a.eval y).cells.toList++arr.toList.drop (p.o+k+(a.eval y).cells.toList.length)).toArray) id
    (.cells true (pu&&aJ (cellsOf (az tm (aR H y)))) Ob z (over k (cellsOf (az tm (aR H y))) cs)):=by
   refine ⟨p,_,t',hm,setRow_heap w p.b arr _ t' _ g2,g3,by rw [Lk (by omega)];exact g4,?_,fun h=>by rw [Lk (by omega)];exact g6 h,?_,?_,fun _=>g9 rfl,by simp⟩
   ·grind
   ·exact Zx g2 g7 ry (by omega) (by omega) dI.refl (fun _ h=>h) (fun b hb=>setRow_other w p.b b _ (fun e=>g9 rfl (e▸hb))) (setRow_heap w p.b arr _ t' _ g2)
   ·intro h;simp only [yf] at h;exact XL (g8 h.1) h.2
  obtain ⟨e1,e2⟩:=Hr hh hg hm (g9 rfl) (PI w p.b _) nU (fun r hr=>by rw [g2] at hr;cases hr);refine ⟨.skip,undef,_,m,S,?_,.inr ⟨rfl,rfl⟩,e1,by simp [aj,au,undef],dI.refl,e2⟩;simp only [execOp,ho,Instr.storeAt,ex,Instr.sureAddr,Sem.run_bind,Sem.run_pure,Result.andThen_ok,storeVar,ns hz,aso,tB,wO,yR];simp [fC]
def XM {d:vl} {k k':ye} (h:Instr.sameNow d k k'=some true):k=k':=by
 unfold Instr.sameNow at h
 split at h
 ·grind
 ·rename_i p q;simp only [yc] at h;have h2:(p.data==q.data)=true:=by cases p;exact h
  cases p;cases q
  grind
 ·grind
 ·cases h
def sameBits_self {d:vl} {k k':ye} (h:Instr.sameNow d k k'=some true) (n:Nat):Instr.sameBits n k' k=true:=by
 have e:=XM h;subst e;unfold Instr.sameNow at h
 split at h
 ·simp [Instr.sameBits]
 ·simp only [yc] at h;simp [Instr.sameBits,h]
 ·simp [Instr.sameBits]
 ·cases h
def Put (ah:Nat->Nat) (m:Mp) (S:Nat->Prop) (w:yh) (d:vl) (k x:ye) (es:List ui) (i:Nat) (jY eh:List AV):Prop:=
 (Instr.findNow d k es i=some none/\au ah m S w jY (es.map (·.key)++[k])/\au ah m S w eh (es.map (·.val)++[x]))\/
 ∃(j:Nat) (e0:ui),Instr.findNow d k es i=some (some (i+j,e0.val))/\es[j]? =some e0/\Instr.sameNow d k e0.key=some true/\au ah m S w jY (es.map (·.key))/\au ah m S w eh ((es.map (·.val)).set j x)
def aax {ah:Nat->Nat} {vk vx:AV} {k x:ye} {d:vl} (hk:aj ah m S w vk k) (hx:aj ah m S w vx x) (hd:fits d vk=true):∀(ks vs:List AV) (es:List ui) (i:Nat) (jY eh:List AV),
  au ah m S w ks (es.map (·.key))->au ah m S w vs (es.map (·.val))->Ba vk vx ks vs=some (jY,eh)->Put ah m S w d k x es i jY eh
 | [],[],es,i,jY,eh,h1,h2,h=>by
  simp only [au,List.map_eq_nil_iff] at h1;subst h1;obtain ⟨rfl,rfl⟩:=h;exact .inl ⟨rfl,by simp [au,hk],by simp [au,hx]⟩
 | [],_::_,es,i,jY,eh,h1,h2,h=>by simp [Ba] at h
 | _::_,[],es,i,jY,eh,h1,h2,h=>by simp [Ba] at h
 | c::ks,v::vs,es,i,jY,eh,h1,h2,h=>by
  cases es with
  | nil=>simp [au] at h1
  | cons e es=>
   obtain ⟨u,t,⟨rfl,rfl⟩,hc,Oa⟩:=h1;obtain ⟨u',t',⟨rfl,rfl⟩,hv,zU⟩:=h2;simp only [Ba] at h
   cases zV:Er vk c with
   | none=>simp [zV] at h
   | some b=>
    have hs:=Zt (d:=d) hk hc zV hd
    cases b with
    | true=>
     simp only [zV,yc,yk] at h;obtain ⟨rfl,rfl⟩:=h;refine .inr ⟨0,e,by simp [Instr.findNow,hs],rfl,hs,?_,?_⟩
     ·simp only [y9,au];exact ⟨_,_,rfl,hc,Oa⟩
     ·simp only [y9,List.set_cons_zero,au];exact ⟨_,_,rfl,hx,zU⟩
    | false=>
     simp only [zV] at h
     cases hm:Ba vk vx ks vs with
     | none=>simp [hm] at h
     | some q=>
      obtain ⟨k1,v1⟩:=q;simp only [hm,yc,yk] at h;obtain ⟨rfl,rfl⟩:=h;rcases aax hk hx hd ks vs es (i+1) k1 v1 Oa zU hm with ⟨g1,g2,g3⟩ | ⟨j,e0,g1,g2,g3,g4,g5⟩
      ·refine .inl ⟨by simp [Instr.findNow,hs,g1],?_,?_⟩
       ·simp only [y9,y8,au];exact ⟨_,_,rfl,hc,g2⟩
       ·simp only [y9,y8,au];exact ⟨_,_,rfl,hv,g3⟩
      ·refine .inr ⟨j+1,e0,?_,by simpa using g2,g3,?_,?_⟩
       ·simp only [Instr.findNow,hs,g1]
        grind
       ·simp only [y9,au];exact ⟨_,_,rfl,hc,g4⟩
       ·simp only [y9,List.set_cons_succ,au];exact ⟨_,_,rfl,hv,g5⟩
def DJ (w:yh) (g:Nat) (o:ybc):One w {w with heap:=w.heap.setIfInBounds g o} g:=
 ⟨rfl,rfl,rfl,by simp,fun b hb=>by simp [Array.getElem?_setIfInBounds_ne (fun e=>hb e.symm)]⟩
def KN {g:Nat} {o q:ybc} (h:w.heap[g]? =some q):({w with heap:=w.heap.setIfInBounds g o}:yh).heap[g]? =some o:=by grind
def Zy {o:yY} {t kt e:yx} {x k y:xB} {kk:Nat} {v:AV} {ao:Hp} {bh:Nat} (hH:fF O H) (ht:cp O m S w tm a.tmps) (hh:aZ O m S w hp ct)
  (ho:o.op= .mapUpdate t x k y\/o.op= .insert t x k y) (hu:O.P.underlying t=some (.map kt e)) (rS:VE.keyOf O.P kt=some kk) (hv:dc tm hp ct (.oX kk (aR H x) (aR H k) (aR H y))=some (v,ao,bh)):zf O m S w a hp ct o v ao bh:=by
 simp only [dc] at hv;have rx:=cF hH ht x;cases hx:az tm (aR H x)<;>rw [hx] at hv rx<;>simp only [reduceCtorEq] at hv
 rename_i id;simp only [aj] at rx;obtain ⟨p,hm,ex⟩:=rx
 split at hv
 case h_2=>cases hv
 rename_i ks vs hg
 cases hc:sL kk (az tm (aR H k)) with
 | false=>simp [hc] at hv
 | true=>
  simp only [hc,Bool.not_true,yB] at hv
  cases bD:Ba (az tm (aR H k)) (az tm (aR H y)) ks vs with
  | none=>simp [bD] at hv
  | some q=>
   obtain ⟨jY,eh⟩:=q;simp only [bD,yc,yk] at hv;obtain ⟨rfl,rfl,rfl⟩:=hv;obtain ⟨d,jj,dR,JC⟩:=XI rS hc;obtain ⟨p',es,clock,g1,g2,g3,g4,g5,g6⟩:=hh.obj id _ _ hg hm;rw [hm] at g1;injection g1 with g1
   subst g1;have atT:=aax (d:=d) (cF hH ht k) (cF hH ht y) JC ks vs es.toList 0 jY eh g3 g4 bD
   have fin:∀(Db:Array ui) (c':Nat),(Instr.mapUpdate t (a.eval x) (a.eval k) (a.eval y)).run O.P w= .ok () {w with heap:=w.heap.setIfInBounds p.b (.map Db c')}->
     au O.ah m S w jY (Db.toList.map (·.key))->au O.ah m S w eh (Db.toList.map (·.val))->zf O m S w a hp ct o (.aq []) (aY hp id (.mp true jY eh)) ct:=by
    intro Db c' fC h1 h2
    have bf:fO S w {w with heap:=w.heap.setIfInBounds p.b (.map Db c')}:=fun b hb=>(DJ w p.b _).other b (fun e=>g5 rfl (e▸hb))
    have nU:fB O m S {w with heap:=w.heap.setIfInBounds p.b (.map Db c')} id (.mp true jY eh):=
     ⟨p,Db,c',hm,KN g2,gT (fun _ _ h=>h) (fun _ h=>h) bf _ _ h1,gT (fun _ _ h=>h) (fun _ h=>h) bf _ _ h2,fun _=>g5 rfl,by simp⟩
    obtain ⟨e1,e2⟩:=Hr hh hg hm (g5 rfl) (DJ w p.b _) nU (fun r hr=>by rw [g2] at hr;cases hr);refine ⟨.skip,undef,_,m,S,?_,.inr ⟨rfl,rfl⟩,e1,by simp [aj,au,undef],dI.refl,e2⟩;rcases ho with ho | ho<;>simp [execOp,ho,fC]
   have qt:=KA (P:=O.P) (w:=w) jj dR false (a.eval k);rcases atT with ⟨h1,h2,h3⟩ | ⟨j,e0,h1,h2,h3,h4,h5⟩
   ·refine fin (es.push ⟨a.eval k,a.eval y,clock⟩) (clock+1) ?_ (by simpa using h2) (by simpa using h3);rw [ex];simp [Instr.mapUpdate,run_underlying hu,MapKept.run_getObj_map g2,qt,Instr.findKey,run_underlying jj,h1,MapKept.run_setObj_map _ g2]
   ·have hj:es[j]? =some e0:=by simp_all
    simp only [yd] at h1;have aeU:=XM h3
    refine fin (es.modify j fun e=>{e with key:=a.eval k,val:=a.eval y}) clock ?_ ?_ ?_
    ·rw [ex];have Up:Instr.sameBits 10000 (a.eval k) (a.eval k)=true:=by have:=sameBits_self h3 10000;rwa [<-aeU] at this
     simp [Instr.mapUpdate,run_underlying hu,MapKept.run_getObj_map g2,qt,Instr.findKey,run_underlying jj,h1,MapKept.run_setObj_map _ g2,hj,Instr.keyThatStays,Up,aeU.symm]
    ·have:(es.modify j fun e=>{e with key:=a.eval k,val:=a.eval y}).toList.map (·.key)=es.toList.map (·.key):=by
      apply yah
      grind
     grind
    ·have:(es.modify j fun e=>{e with key:=a.eval k,val:=a.eval y}).toList.map (·.val)=(es.toList.map (·.val)).set j (a.eval y):=by
      apply yah
      grind
     grind
def anO (t:ByteArray) (i:Nat):(t.get! i).toNat=(t.data.toList.map yW).getD i 0:=by
 have:t.get! i=t.data[i]! :=by cases t;rfl
 rw [this];by_cases h:i<t.data.size
 ·grind
 ·simp only [Array.getElem!_eq_getD,Array.getD_eq_getD_getElem?,List.getD_eq_getElem?_getD,List.getElem?_map,Array.getElem?_toList];rw [Array.getElem?_eq_none (by omega)];rfl
def ajr (t:ByteArray) (i:Nat):decodeL (t.data.toList.map yW) i=Utf8.decode t i:=by
 have eQ:(t.data.toList.map yW).length=t.size:=by simp
 simp only [decodeL,Utf8.decode,anO,eQ]
def alp {o:yY} {x:xB} {v:AV} {ao:Hp} {bh:Nat} (hH:fF O H) (ht:cp O m S w tm a.tmps) (hh:aZ O m S w hp ct)
  (ho:o.op= .next x true) (hv:dc tm hp ct (.oZ (aR H x))=some (v,ao,bh)):zf O m S w a hp ct o v ao bh:=by
 simp only [dc] at hv;have rx:=cF hH ht x;cases hx:az tm (aR H x)<;>rw [hx] at hv rx<;>simp only [reduceCtorEq] at hv
 rename_i id;simp only [aj] at rx;obtain ⟨p,hm,ex⟩:=rx
 split at hv
 case h_2=>cases hv
 rename_i s pos hg;obtain ⟨p',t,g1,g2,g3,g4⟩:=hh.obj id _ _ hg hm;rw [hm] at g1;injection g1 with g1
 subst g1;have ap:(getObj p.b).run O.P w= .ok (.stringIter t pos) w:=by simp [getObj,Sem.run,g2]
 have hlen:s.length=t.size:=by rw [<-g3];simp
 cases hc:yG pos s.length with
 | false=>
  rw [hc] at hv;simp only [yB,yc,yk] at hv;obtain ⟨rfl,rfl,rfl⟩:=hv;have bi:¬pos<t.size:=by
   intro h
   have:yG pos s.length=true:=by simp [yG];omega
   grind
  refine ⟨.value (.tuple #[.bool false]),.tuple #[.bool false],w,m,S,?_,.inl rfl,hh,by simp [aj,au],dI.refl,cu.refl⟩;simp [execOp,ho,ex,Instr.next,ap,bi]
 | true=>
  rw [hc] at hv;simp only [ym] at hv;have bi:pos<t.size:=by
   simp_all
  cases hdc:decodeL s pos with | mk c wd=>
  rw [hdc] at hv;simp only [yc,yk] at hv;obtain ⟨rfl,rfl,rfl⟩:=hv;have hd:Utf8.decode t pos=(c,wd):=by rw [<-ajr,g3,hdc]
  have nU:fB O m S {w with heap:=w.heap.setIfInBounds p.b (.stringIter t (pos+wd))} id (.si s (pos+wd)):=⟨p,t,hm,KN g2,g3,g4⟩;obtain ⟨e1,e2⟩:=Hr hh hg hm g4 (DJ w p.b _) nU (fun r hr=>by rw [g2] at hr;cases hr);refine ⟨.value (.tuple #[.bool true,goInt pos,.int .i32 c]),_,_,m,S,?_,.inl rfl,e1,by simp [aj,au,goInt],dI.refl,e2⟩
  have aY:(setObj p.b (.stringIter t (pos+wd))).run O.P w= .ok () {w with heap:=w.heap.setIfInBounds p.b (.stringIter t (pos+wd))}:=by simp [setObj,Sem.run,g2]
  simp [execOp,ho,ex,Instr.next,ap,bi,hd,aY]
end
end
section
open Go
def Hg {hp:Hp} {id i:Nat}:ap (dz hp id) i=if id=i then none else ap hp i:=by
 induction hp with
 | nil=>simp [dz,ap]
 | cons x r ih=>
  obtain ⟨j,q⟩:=x;simp only [dz];by_cases hj:j=id
  ·subst hj;simp only [xo,ym,ih,ap];by_cases hi:j=i
   ·grind
   ·have:yr j i=false:=by
     cases hq:yr j i with
     | false=>rfl
     | true=>exact absurd (yo hq) hi
    grind
  ·have hb:yr j id=false:=by
    cases hq:yr j id with
    | false=>rfl
    | true=>exact absurd (yo hq) hj
   simp only [hb,yB];rw [show ap ((j,q)::dz r id) i=bif yr j i then some q else ap (dz r id) i from rfl,ih];by_cases hi:j=i
   ·subst hi
    have:¬id=j:=fun h=>hj h.symm
    simp [xo,this,ap]
   ·have rU:yr j i=false:=by
     cases hq:yr j i with
     | false=>rfl
     | true=>exact absurd (yo hq) hi
    simp [rU,ap]
section
variable {O:bw} {H:Hint} {m:Mp} {S:Nat->Prop} {w:yh} {tm:Env} {a:Act} {hp:Hp} {ct:Nat}
def Src (P:y5) (w:yh) (size n:Nat) (news:List ye) (x:ye):Prop:=
 (∀w',(Builtin.lenOf x).run P w'= .ok n w')/\news.length=n*size/\
 ∀w',w'.heap=w.heap->∀k,k<=n->(Builtin.firstCells size k x).run P w'= .ok (news.take (k*size)).toArray w'
def Hh {P:y5} {size n c:Nat} {b:Addr} {news:List ye} (hl:news.length=n*size) (hc:∀j u,news[j]? =some u->w.cell? (b.add j)=some u):
  Src P w size n news (.slice (some b) n c):=by
 refine ⟨fun w'=>by simp [Builtin.lenOf],hl,fun w' hw k hk=>?_⟩;have hle:k*size<=news.length:=by rw [hl];exact yZ _ hk
 refine run_firstCells_some (P:=P) w' size k b n c (news.take (k*size)) (by rw [yT];omega) (fun j v hv=>?_);rw [List.getElem?_take] at hv
 split at hv
 ·have:=hc j v hv
  simpa [World.cell?,hw] using this
 ·cases hv
def aay {P:y5} {size:Nat}:Src P w size 0 [] (.slice none 0 0):=
 ⟨fun w'=>by simp [Builtin.lenOf],by simp,fun w' _ k hk=>by simp [Builtin.firstCells]⟩
def aiq (s:ByteArray) (k:Nat):(s.extract 0 k).data.map (fun b=>Value.int .u8 b.toNat)=((s.data.toList.map fun b=>Value.int .u8 (b.toNat:Int)).take k).toArray:=by
 have:(s.extract 0 k).data=s.data.extract 0 k:=by simp
 grind
def anP {P:y5} {s:ByteArray}:Src P w 1 s.size (s.data.toList.map fun b=>Value.int .u8 (b.toNat:Int)) (.string s):=by
 refine ⟨fun w'=>by simp [Builtin.lenOf],by simp,fun w' _ k hk=>?_⟩;simp only [Builtin.firstCells,Sem.run_pure,Nat.mul_one];rw [aiq]
def Xk {ah:Nat->Nat}:∀l:List UInt8,au ah m S w (LF (l.map yW)) (l.map fun b=>Value.int .u8 (b.toNat:Int))
 | []=>by simp [LF,au]
 | b::r=>by
  exact ⟨_,_,rfl,by simp [aj],Xk r⟩
def XN {size n:Nat} {vx:AV} {x:ye} {cs:List AV} (hh:aZ O m S w hp ct) (hx:aj O.ah m S w vx x) (h:pM hp size vx=some (n,cs)):
  ∃us,au O.ah m S w cs us/\Src O.P w size n us x:=by
 cases vx<;>simp only [pM,reduceCtorEq] at h
 case ab=>
  obtain ⟨rfl,rfl⟩:=h;subst hx;exact ⟨[],by simp [au],aay⟩
 case aE ex n' dK=>
  cases hc:yr dK.length (n'*size) with
  | false=>rw [hc] at h;cases h
  | true=>
   rw [hc] at h;obtain ⟨rfl,rfl⟩:=h;have hl:=yo hc;rcases hx with ⟨b,o,c,rfl,h1,h2,h3,h4,h5⟩ | ⟨ad,rfl,rfl,rfl⟩
   ·obtain ⟨us,g1,g2,g3⟩:=sE _ b o h5;exact ⟨us,g1,Hh (by omega) (fun j u hj=>by rw [oE];exact g3 j u hj)⟩
   ·exact ⟨[],by simp [au],Hh (by simp) (fun j u hj=>by simp at hj)⟩
 case ak id o n'=>
  cases hg:ap hp id with
  | none=>simp [hg] at h
  | some ob=>
   cases ob<;>simp only [hg,reduceCtorEq] at h
   rename_i rw pu ex z dK
   cases hc:yE (o+n'*size) dK.length with
   | false=>rw [hc] at h;cases h
   | true=>
    rw [hc] at h;simp only [ym,yc,yk] at h;obtain ⟨rfl,rfl⟩:=h;have hl:=yt hc;obtain ⟨p,c,hm,rfl,h1,h2⟩:=hx;have hr:=Qp (o:=0) (n:=0) hh hg hm;have fh:=B8 (n'*size) _ _ _ (qM o _ _ _ hr);obtain ⟨us,g1,g2,g3⟩:=sE _ p.b (p.o+o) fh;refine ⟨us,g1,Hh ?_ (fun j u hj=>by rw [oE];exact g3 j u hj)⟩
    grind
def ajs {size n:Nat} {vx:AV} {x:ye} {cs:List AV} (hh:aZ O m S w hp ct) (hx:aj O.ah m S w vx x) (h:sS hp size vx=some (n,cs)):
  ∃us,au O.ah m S w cs us/\Src O.P w size n us x:=by
 cases vx<;>try exact XN hh hx h
 simp only [sS] at h
 cases hc:yr size 1 with
 | false=>rw [hc] at h;cases h
 | true=>
  rw [hc] at h;obtain ⟨rfl,rfl⟩:=h
  have:=yo hc
  subst this;obtain ⟨t,rfl,rfl⟩:=hx;refine ⟨_,Xk _,?_⟩
  have:(List.map yW t.data.toList).length=t.size:=by simp
  rw [this];exact anP
def ahG {P:y5} {t u ty e:yx} {i:ybP} (ht:P.underlying t=some (.slice e)) (hu:(∃e',P.underlying u=some (.slice e'))\/P.underlying u=some .string) (hi:P.info? e=some i)
  {g o iq pV:Nat} {cur:Array ye} {te:yx} (hg:w.heap[g]? =some (.cells cur te (0,0))) {x:ye} {n:Nat} {news:List ye} (hs:Src P w i.size n news x) (h1:∀u∈news,u.oneCell'=true)
  (Ev:iq+n<=pV) (Sz:o+iq*i.size+news.length<=cur.size):
  (Builtin.append_ #[t,u] ty #[.slice (some ⟨g,o,none⟩) iq pV,x]).run P w=
   .ok (.slice (some ⟨g,o,none⟩) (iq+n) pV) (w.setRow g (cur.toList.take (o+iq*i.size)++news++cur.toList.drop (o+iq*i.size+news.length)).toArray):=by
 obtain ⟨lM,z7,Uq⟩:=hs;have hf:=Uq w rfl n (yD _);rw [yL (by omega)] at hf;have bf:=run_storeCells_at P g (o+iq*i.size) te news 0 cur w hg (by omega) h1;rcases hu with ⟨e',hd⟩ | hd<;>
  simp [Builtin.append_,run_underlying ht,run_underlying hd,vX,typeInfo,hi,lM,Ev,hf,oE,bf]
def Pv {P:y5} {t u ty e:yx} {i:ybP} {z:ye} (ht:P.underlying t=some (.slice e)) (hu:(∃e',P.underlying u=some (.slice e'))\/P.underlying u=some .string) (hi:P.info? e=some i) (hz:i.zero=some z)
  {s:ye} {base:Option Addr} {iq pV:Nat} (es:s= .slice base iq pV) {mZ:List ye} (ho:Src P w i.size iq mZ s) {x:ye} {n:Nat} {news:List ye} (hs:Src P w i.size n news x)
  (hg:pV<iq+n) (Oc:iq+n<=1099511627776) (Uo:(iq+n)*i.bytes<=1099511627776):
  (Builtin.append_ #[t,u] ty #[s,x]).run P w=
   .ok (.slice (some ⟨w.heap.size,0,none⟩) (iq+n) (grownCap w (iq+n) pV e))
    (w.drew.alloc (.cells ((mZ++news).toArray++Builtin.zeroCells z.cells (grownCap w (iq+n) pV e-(iq+n))) e)):=by
 obtain ⟨lM,z7,Uq⟩:=hs;obtain ⟨ho1,Ur,ho3⟩:=ho;have hf:=Uq w.drew rfl n (yD _);rw [yL (by omega)] at hf;have hfo:=ho3 w.drew rfl iq (yD _);have hn:¬(iq+n<=pV):=by omega
 have atU:¬(9223372036854775807<((iq:Int)+(n:Int))):=by omega
 have Sz:=growslice_fits (need:=iq+n) (old:=pV) (bytes:=i.bytes) hg (by omega);have atV:¬(281474976710656<Builtin.nextslicecap (iq+n) pV*i.bytes):=by omega
 subst es;rcases hu with ⟨e',hd⟩ | hd
 all_goals
  simp [Builtin.append_,run_underlying ht,run_underlying hd,vX,typeInfo,zeroValue,hi,hz,lM,hn,atU,atV,Question.forced,hf,hfo,newRow,askRoom,grownCap]
  grind
def P2 {e:yx} {z:ye} {sz need cap:Nat} {cs:List AV} {us:List ye} (hh:aZ O m S w hp ct) (hr:au O.ah m S w cs us) (hl:us.length=need*sz) (hz:z.cells.size=sz)
  (Mq:Bool) (hpp:Mq=true->aJ cs=true) (hc:need<=cap):
  let w':=w.drew.alloc (.cells (us.toArray++Builtin.zeroCells z.cells (cap-need)) e)
  let p:Pl:=⟨w.heap.size,0,cap*sz,sz⟩
  ∀m',dI m m'->m' ct=some p->fB O m' S w' ct (.cells true Mq false sz cs):=by
 intro w' p m' hm hi;have bf:fO S w w':=fun b hb=>by
  have:=hh.slt b hb
  exact RowKit.Below.heap_alloc w.drew _ b (by simpa using this)
 have lF:w'.heap[w.heap.size]? =some (.cells (us.toArray++Builtin.zeroCells z.cells (cap-need)) e (0,0)):=heap_alloc_new w.drew _;have ix:=iF _ _ hr;refine ⟨p,_,e,hi,lF,rfl,?_,?_,by simp,?_,hpp,?_,by simp⟩
 ·show cs.length<=cap*sz
  rw [<-ix,hl];exact yZ _ hc
 ·show 0+cap*sz<=_
  rw [Array.size_append,ux,size_zeroCells,hz,hl,<-wG]
  grind
 ·refine PZ lF cs us 0 (gT hm (fun _ h=>h) bf _ _ hr) (fun j u hj=>?_)
  grind
 ·intro _ hS
  have:=hh.slt _ hS
  grind
def ahv (hh:aZ O m S w hp ct) (g:ybc):fO S w (w.drew.alloc g):=fun b hb=>by
 have:=hh.slt b hb
 exact RowKit.Below.heap_alloc w.drew _ b (by simpa using this)
def P3 (hh:aZ O m S w hp ct) {hp0:Hp} {g:ybc} {p:Pl} {o:Obj} (MW:∀i q,ap hp0 i=some q->ap hp i=some q) (hb:p.b=w.heap.size)
  (ho:∀m',dI m m'->m' ct=some p->fB O m' S (w.drew.alloc g) ct o):
  aZ O (fD m ct p) S (w.drew.alloc g) ((ct,o)::hp0) (ct+1)/\cu m S w hp (fD m ct p) S (w.drew.alloc g) ((ct,o)::hp0) ct:=by
 have hn:m ct=none:=by
  cases h:m ct with
  | none=>rfl
  | some q=>have:=hh.lt _ _ h;omega
 have hle:=kC hn (p:=p);have bf:=ahv hh g;have hold:∀b,b<w.heap.size->(w.drew.alloc g).heap[b]? =w.heap[b]? :=fun b hb=>RowKit.Below.heap_alloc w.drew _ b (by simpa using hb)
 have eQ:(w.drew.alloc g).heap.size=w.heap.size+1:=by simp
 have ic:∀i q,ap ((ct,o)::hp0) i=some q->i≠ct->ap hp i=some q:=fun i q h hi=>by
  rw [gU,yz (fun e=>hi e.symm)] at h
  grind
 refine ⟨⟨?_,?_,?_,?_,?_,?_,?_,?_,fun i q hq=>(by
  by_cases hc:i=ct
  ·omega
  ·have:=hh.bi _ _ (ic i q hq hc);omega)⟩,⟨rfl,rfl,rfl,by omega,?_,fun _ h=>h,fun b hb=>bf b hb,fun b hb=> .inl hb,?_,fun i q _ h=>hle i q h,fun b r hb=>⟨r,(hold b (Array.getElem?_eq_some_iff.1 hb).1).trans hb⟩⟩⟩
 ·intro i q pi hi bM;by_cases hc:i=ct
  ·subst hc;rw [gU] at hi;simp only [y7,yc] at hi;subst hi;exact ho _ hle eC
  ·rw [eB hc] at bM;exact qP hle (fun _ h=>h) bf (fun q' cf=>hold _ (hh.blt i q' cf)) (fun _ _ h=>h) (hh.obj i q pi (ic i q hi hc) bM)
 ·intro i q bM;by_cases hc:i=ct
  ·omega
  ·rw [eB hc] at bM;have:=hh.lt i q bM;omega
 ·intro i j oi oj pi pj hi hj bM fW e;by_cases ci:i=ct
  ·by_cases cj:j=ct
   ·grind
   ·subst ci;rw [eC] at bM;rw [eB cj] at fW;injection bM with bM
    subst bM
    have:=hh.blt j pj fW
    omega
  ·rw [eB ci] at bM;by_cases cj:j=ct
   ·subst cj;rw [eC] at fW;injection fW with fW
    subst fW
    have:=hh.blt i pi bM
    omega
   ·rw [eB cj] at fW;exact hh.inj i j oi oj pi pj (ic i oi hi ci) (ic j oj hj cj) bM fW e
 ·intro b hb;have:=hh.slt b hb;omega
 ·intro i q bM;by_cases hc:i=ct
  ·subst hc;rw [eC] at bM;injection bM with bM
   subst bM;omega
  ·rw [eB hc] at bM;have:=hh.blt i q bM;omega
 ·intro i q bM;have h0:=hh.fP;by_cases hc:i=ct
  ·subst hc;rw [eC] at bM;injection bM with bM
   subst bM;omega
  ·rw [eB hc] at bM;exact hh.low i q bM
 ·intro b hb;have h0:=hh.fP;exact (hold b (by omega)).trans (hh.lE b hb)
 ·have h0:=hh.fP;omega
 ·intro b hb _;exact hold b hb
 ·rintro b ⟨i,q,pi,h1,h2,h3⟩;by_cases hc:i=ct
  ·subst hc;rw [eC] at h2;injection h2 with h2
   subst h2;exact .inr (by omega)
  ·rw [eB hc] at h2;exact .inl ⟨i,q,pi,ic i q h1 hc,h2,h3⟩
def ajt (hh:aZ O m S w hp ct) {id:Nat} {o o':Obj} {p p':Pl} {w':yh} (hg:ap hp id=some o) (hm:m id=some p) (hn:¬S p.b) (hw:One w w' p.b) (hk:∀r:uf,w.heap[p.b]? =some (.loop r)->∃r':uf,w'.heap[p.b]? =some (.loop r')) (hb:p'.b=p.b)
  (ho:∀m',dI m m'->m' ct=some p'->fB O m' S w' ct o'):
  aZ O (fD m ct p') S w' ((ct,o')::dz hp id) (ct+1)/\cu m S w hp (fD m ct p') S w' ((ct,o')::dz hp id) ct:=by
 have jZ:m ct=none:=by
  cases h:m ct with
  | none=>rfl
  | some q=>have:=hh.lt _ _ h;omega
 have hle:=kC jZ (p:=p');have bf:fO S w w':=fun b hb=>hw.other b (fun e=>hn (e▸hb))
 have ic:∀i q,ap ((ct,o')::dz hp id) i=some q->i≠ct->ap hp i=some q/\i≠id:=fun i q h hi=>by
  rw [gU,yz (fun e=>hi e.symm),Hg] at h
  grind
 have aeV:∀i q pi,ap hp i=some q->i≠id->m i=some pi->pi.b≠p.b:=fun i q pi h hi bM e=>hi (hh.inj i id q o pi p h hg bM hm e)
 refine ⟨⟨?_,?_,?_,?_,?_,?_,?_,?_,fun i q hq=>(by
  by_cases hc:i=ct
  ·omega
  ·have:=hh.bi _ _ (ic i q hq hc).1;omega)⟩,⟨hw.os,hw.tape,hw.output,by rw [hw.size];exact yD _,?_,fun _ h=>h,fun b hb=>bf b hb,fun b hb=> .inl hb,?_,fun i q _ h=>hle i q h,fun b r hb=>(by
  by_cases hc:b=p.b
  ·grind
  ·exact ⟨r,(hw.other b hc).trans hb⟩)⟩⟩
 ·intro i q pi hi bM;by_cases hc:i=ct
  ·subst hc;rw [gU] at hi;simp only [y7,yc] at hi;subst hi;exact ho _ hle eC
  ·rw [eB hc] at bM;obtain ⟨h1,h2⟩:=ic i q hi hc;exact qP hle (fun _ h=>h) bf (fun q' cf=>hw.other _ (aeV i q q' h1 h2 cf)) (fun _ _ h=>h) (hh.obj i q pi h1 bM)
 ·intro i q bM;by_cases hc:i=ct
  ·omega
  ·rw [eB hc] at bM;have:=hh.lt i q bM;omega
 ·intro i j oi oj pi pj hi hj bM fW e;by_cases ci:i=ct
  ·by_cases cj:j=ct
   ·grind
   ·subst ci;rw [eC] at bM;rw [eB cj] at fW
    grind
  ·rw [eB ci] at bM;obtain ⟨h1,h2⟩:=ic i oi hi ci;by_cases cj:j=ct
   ·subst cj;rw [eC] at fW;injection fW with fW
    subst fW;exact (aeV i oi pi h1 h2 bM (by rw [e,hb])).elim
   ·rw [eB cj] at fW;exact hh.inj i j oi oj pi pj h1 (ic j oj hj cj).1 bM fW e
 ·intro b hb;rw [hw.size];exact hh.slt b hb
 ·intro i q bM;rw [hw.size];by_cases hc:i=ct
  ·subst hc;rw [eC] at bM;injection bM with bM
   subst bM;rw [hb];exact hh.blt id p hm
  ·rw [eB hc] at bM;exact hh.blt i q bM
 ·intro i q bM;by_cases hc:i=ct
  ·subst hc;rw [eC] at bM;injection bM with bM
   subst bM;rw [hb];exact hh.low id p hm
  ·rw [eB hc] at bM;exact hh.low i q bM
 ·intro b hb
  rw [hw.other b (fun e=>by have:=hh.low id p hm;omega)];exact hh.lE b hb
 ·rw [hw.size];exact hh.fP
 ·intro b _ cS;exact hw.other b (fun e=>cS (e▸HT hg hm))
 ·rintro b ⟨i,q,pi,h1,h2,h3⟩;by_cases hc:i=ct
  ·subst hc;rw [eC] at h2;injection h2 with h2
   subst h2;exact .inl ⟨id,o,p,hg,hm,by rw [<-h3,hb]⟩
  ·rw [eB hc] at h2;exact .inl ⟨i,q,pi,(ic i q h1 hc).1,h2,h3⟩
def anQ {P:y5} {e:yx} {s by':Nat} {z:AV} (hs:cP P e=some s) (hb:Bz P e=some by') (hz:mS P e=some z):
  ∃ti zv,P.info? e=some ti/\ti.size=s/\ti.bytes=by'/\ti.zero=some zv/\z=eJ zv:=by
 unfold cP at hs;unfold Bz at hb;unfold mS at hz
 cases hi:P.info? e with
 | none=>simp [hi] at hs
 | some ti=>
  simp only [hi,yc] at hs hb hz
  cases ia:ti.zero with
  | none=>simp [ia] at hz
  | some zv=>
   grind
def Ht {o:yY} {v:AV} {u:ye} {w':yh} {m':Mp} {S':Nat->Prop} {ao:Hp} {bh:Nat} (h1:(execOp a.eval o).run O.P w= .ok (.value u) w') (h2:aZ O m' S' w' ao bh) (h3:aj O.ah m' S' w' v u)
  (h4:dI m m') (h5:cu m S w hp m' S' w' ao ct):zf O m S w a hp ct o v ao bh:=⟨_,u,w',m',S',h1,.inl rfl,h2,h3,h4,h5⟩
def alq {o:yY} {b':yx} {t u e:yx} {sz by':Nat} {z:AV} {x y:xB} {v:AV} {ao:Hp} {bh:Nat} (hH:fF O H) (ht:cp O m S w tm a.tmps) (hh:aZ O m S w hp ct)
  (fC:(execOp a.eval o).run O.P w=((do pure (.value (<-Builtin.append_ #[t,u] b' #[a.eval x,a.eval y])):Sem yaE)).run O.P w)
  (BF:O.P.underlying t=some (.slice e)) (hu:(∃e',O.P.underlying u=some (.slice e'))\/O.P.underlying u=some .string) (hs:cP O.P e=some sz) (hb:Bz O.P e=some by') (hz:mS O.P e=some z) (zX:(cellsOf z).length=sz)
  (hv:dc tm hp ct (.dH sz by' (aR H x) (aR H y))=some (v,ao,bh)):zf O m S w a hp ct o v ao bh:=by
 simp only [dc] at hv;obtain ⟨ti,zv,zZ,rfl,rfl,Us,rfl⟩:=anQ hs hb hz;have aT:∀u' w',(Builtin.append_ #[t,u] b' #[a.eval x,a.eval y]).run O.P w= .ok u' w'->(execOp a.eval o).run O.P w= .ok (.value u') w':=fun u' w' h=>by
  rw [fC,Sem.run_bind,h];rfl
 have rk:m ct=none:=by
  cases h:m ct with
  | none=>rfl
  | some q=>have:=hh.lt _ _ h;omega
 have JH:zv.cells.size=ti.size:=by
  have:=iF _ _ (DE (ah:=O.ah) (m:=m) (S:=S) (w:=w) zv)
  rw [<-zX,<-this];simp
 cases CJ:sS hp ti.size (az tm (aR H y)) with
 | none=>simp [CJ] at hv
 | some q=>
  obtain ⟨n,new⟩:=q;simp only [CJ] at hv;obtain ⟨news,ie,ew⟩:=ajs hh (cF hH ht y) CJ;have Od:=iF _ _ ie;have rx:=cF hH ht x
  cases hx:az tm (aR H x) with
  | ab=>
   rw [hx] at hv rx;simp only at hv;simp only [aj] at rx
   cases h0:yr n 0 with
   | true=>
    rw [h0] at hv;simp only [ym,yc,yk] at hv;obtain ⟨rfl,rfl,rfl⟩:=hv;have rW:=yo h0;subst rW;have R6:news=[]:=yN (by rw [ew.2.1];simp)
    subst R6;have hf:=ew.2.2 w rfl 0 (yD _);have lL:=ew.1 w;refine ⟨.value (.slice none 0 0),.slice none 0 0,w,m,S,?_,.inl rfl,hh,by simp [aj],dI.refl,cu.refl⟩;rw [fC,rx];rcases hu with ⟨e',hu⟩ | hu<;>
     simp [Builtin.append_,run_underlying BF,run_underlying hu,vX,typeInfo,zZ,lL,hf]
   | false=>
    rw [h0] at hv;simp only [yB] at hv
    cases hc:(yE n room&&(yE (n*ti.bytes) room&&yG 0 ti.size)) with
    | false=>rw [hc] at hv;cases hv
    | true=>
     rw [hc] at hv;simp only [ym,yc,yk] at hv;obtain ⟨rfl,rfl,rfl⟩:=hv;simp only [yf] at hc;have c1:=yt hc.1;have c2:=yt hc.2.1;simp only [room] at c1 c2;have rW:0<n:=by
      rcases xr n with h | h
      ·subst h;simp at h0
      ·exact h
     have hr:=Pv (P:=O.P) (ty:=b') (w:=w) BF hu zZ Us (s:= .slice none 0 0) rfl (aay (P:=O.P) (size:=ti.size)) ew (by omega) (by omega) (by simpa using c2);simp only [yd,List.nil_append] at hr;have lO:=grownCap_ge w n 0 e;have lF:=P2 (e:=e) (z:=zv) (cap:=grownCap w n 0 e) hh ie (need:=n) (sz:=ti.size) ew.2.1 JH (aJ new) (fun h=>h) lO;obtain ⟨k1,k2⟩:=P3 hh (hp0:=hp) (p:=⟨w.heap.size,0,grownCap w n 0 e*ti.size,ti.size⟩) (fun _ _ h=>h) rfl lF;exact Ht (aT _ _ (by rw [rx];exact hr)) k1 (by simp only [aj];exact ⟨_,_,eC,rfl,lO,by simp⟩) (kC rk) k2
  | aE ex k cs=>
   rw [hx] at hv rx
   cases ex with
   | false=>simp at hv
   | true=>
    simp only at hv;have rx0:=rx;simp only [aj] at rx;have rx1:∃ad mZ,a.eval x= .slice (some ad) k k/\au O.ah m S w cs mZ/\mZ.length=cs.length/\(∀(j:Nat) (u:ye),mZ[j]? =some u->w.cell? (ad.add j)=some u)/\aJ cs=true:=by
     rcases rx with ⟨bb,oo,c,ex,h1,h2,h3,h4,h5⟩ | ⟨ad,ex,rfl,rfl⟩
     ·have qt:c=k:=h2 (by trivial);subst qt;obtain ⟨mZ,g1,g2,g3⟩:=sE cs bb oo h5;exact ⟨_,mZ,ex,g1,g2,fun j u hj=>by rw [oE];exact g3 j u hj,h4⟩
     ·exact ⟨ad,[],ex,by simp [au],rfl,fun j u hj=>by simp at hj,rfl⟩
    obtain ⟨ad,mZ,ex,g1,g2,g3,h4⟩:=rx1
    cases h0:yr n 0 with
    | true=>
     rw [h0] at hv;simp only [ym,yc,yk] at hv;obtain ⟨rfl,rfl,rfl⟩:=hv;have rW:=yo h0;subst rW;have R6:news=[]:=yN (by rw [ew.2.1];simp)
     subst R6;have hf:=ew.2.2 w rfl 0 (yD _);have lL:=ew.1 w;refine ⟨.value (a.eval x),a.eval x,w,m,S,?_,.inl rfl,hh,rx0,dI.refl,cu.refl⟩;rw [fC,ex];rcases hu with ⟨e',hu⟩ | hu<;>
      simp [Builtin.append_,run_underlying BF,run_underlying hu,vX,typeInfo,zZ,lL,hf,storeCells]
    | false=>
     rw [h0] at hv;simp only [yB] at hv
     cases hc:(yE (k+n) room&&(yE ((k+n)*ti.bytes) room&&(yr cs.length (k*ti.size)&&yG 0 ti.size))) with
     | false=>rw [hc] at hv;cases hv
     | true=>
      rw [hc] at hv;simp only [ym,yc,yk] at hv;obtain ⟨rfl,rfl,rfl⟩:=hv;simp only [yf] at hc;have c1:=yt hc.1;have c2:=yt hc.2.1;have c3:=yo hc.2.2.1;simp only [room] at c1 c2;have rW:0<n:=by
       rcases xr n with h | h
       ·subst h;simp at h0
       ·exact h
      have Ut:Src O.P w ti.size k mZ (.slice (some ad) k k):=Hh (by omega) g3;have hr:=Pv (P:=O.P) (ty:=b') (w:=w) BF hu zZ Us rfl Ut ew (by omega) c1 c2;have lO:=grownCap_ge w (k+n) k e;have lF:=P2 (e:=e) (z:=zv) (cap:=grownCap w (k+n) k e) hh (lU g1 ie) (need:=k+n) (sz:=ti.size) (by rw [yQ,g2,c3,ew.2.1,wG]) JH (aJ cs&&aJ new)
       (fun h=>by simp only [yf] at h;exact DF h.1 h.2) lO
      obtain ⟨k1,k2⟩:=P3 hh (hp0:=hp) (p:=⟨w.heap.size,0,grownCap w (k+n) k e*ti.size,ti.size⟩) (fun _ _ h=>h) rfl lF;exact Ht (aT _ _ (by rw [ex];exact hr)) k1 (by simp only [aj];exact ⟨_,_,eC,rfl,lO,by simp⟩) (kC rk) k2
  | ak id o0 k=>
   rw [hx] at hv rx;simp only at hv;simp only [aj] at rx;obtain ⟨p,c,hm,ex,h1,h2⟩:=rx
   split at hv
   case h_2=>cases hv
   rename_i pu Ob zz cs hg
   cases hc:(yr zz ti.size&&(yE (k+n) room&&(yE ((k+n)*ti.bytes) room&&(yE (o0+k*ti.size) cs.length&&(yG 0 ti.size&&bQ new))))) with
   | false=>rw [hc] at hv;cases hv
   | true=>
    rw [hc] at hv;simp only [ym,yc,yk] at hv;obtain ⟨rfl,rfl,rfl⟩:=hv;simp only [yf] at hc;have c0:=yo hc.1;have c1:=yt hc.2.1;have c2:=yt hc.2.2.1;have c3:=yt hc.2.2.2.1;have c4:=hc.2.2.2.2.2;simp only [room] at c1 c2;obtain ⟨p',arr,t',g1,g2,g3,g4,g5,g6,g7,g8,g9,g10⟩:=hh.obj id _ _ hg hm;rw [hm] at g1;injection g1 with g1
    subst g1;subst c0;rw [g3] at h2;have Oe:bT O.ah m S w (slice o0 (k*ti.size) cs) p.b (p.o+o0):=B8 _ _ _ _ (qM _ _ _ _ g7);obtain ⟨mZ,f1,f2,f3⟩:=sE _ _ _ Oe;have aeW:(slice o0 (k*ti.size) cs).length=k*ti.size:=by simp only [slice,yT,wu];omega
    have pg:(pu&&aJ new)=true->aJ (slice o0 (k*ti.size) cs++new)=true:=fun h=>by
     simp only [yf] at h;exact DF (B5 _ (Aw _ _ (g8 h.1))) h.2
    by_cases Ev:k+n<=c
    ·have fH:=K2 ie c4;have Sz:p.o+o0+k*ti.size+news.length<=arr.size:=by
      rw [ew.2.1]
      have:(k+n)*ti.size<=c*ti.size:=yZ _ Ev
      rw [wG] at this;omega
     have hr:=ahG (P:=O.P) (ty:=b') (w:=w) BF hu zZ g2 ew fH Ev Sz;have ho:∀m',dI m m'->m' ct=some ⟨p.b,p.o+o0,c*ti.size,ti.size⟩->
       fB O m' S (w.setRow p.b (arr.toList.take (p.o+o0+k*ti.size)++news++arr.toList.drop (p.o+o0+k*ti.size+news.length)).toArray) ct
        (.cells true (pu&&aJ new) false ti.size (slice o0 (k*ti.size) cs++new)):=by
      intro m' hle hi;have bf:fO S w (w.setRow p.b (arr.toList.take (p.o+o0+k*ti.size)++news++arr.toList.drop (p.o+o0+k*ti.size+news.length)).toArray):=fun b hb=>setRow_other w p.b b _ (fun e=>g9 rfl (e▸hb))
      refine ⟨_,_,t',hi,setRow_heap w p.b arr _ t' _ g2,rfl,?_,?_,by simp,?_,pg,fun _=>g9 rfl,by simp⟩
      ·show (slice o0 (k*ti.size) cs++new).length<=c*ti.size
       rw [yQ,aeW,<-Od,ew.2.1,<-wG];exact yZ _ Ev
      ·show p.o+o0+c*ti.size<=_
       rw [ux,yQ,yQ,yT,wu,vH];omega
      ·refine DS _ (mZ++news) _ (lU (gT hle (fun _ h=>h) bf _ _ f1) (gT hle (fun _ h=>h) bf _ _ ie)) (fun j u hj=>?_);show World.cell? _ ⟨p.b,p.o+o0+j,none⟩=some u
       simp only [World.cell?,setRow_heap w p.b arr _ t' _ g2,tK,yC,yR];rw [tA];have e1:(arr.toList.take (p.o+o0+k*ti.size)).length=p.o+o0+k*ti.size:=by rw [yT,vH];omega
       by_cases Un:j<k*ti.size
       ·rw [xQ (by omega)] at hj;rw [xu,xQ (by omega),vQ (by omega)]
        have:=f3 j u hj
        simpa [World.cell?,g2] using this
       ·rw [xE (by omega)] at hj;have hjl:=(List.getElem?_eq_some_iff.1 hj).1;rw [xu,xE (by omega),e1,xQ (by omega),show p.o+o0+j-(p.o+o0+k*ti.size)=j-mZ.length by omega];exact hj
     obtain ⟨k1,k2⟩:=ajt (p':=⟨p.b,p.o+o0,c*ti.size,ti.size⟩) hh hg hm (g9 rfl) (PI w p.b _) (fun r hr=>by rw [g2] at hr;cases hr) rfl ho;exact Ht (aT _ _ (by rw [ex];exact hr)) k1 (by simp only [aj];exact ⟨_,c,eC,rfl,Ev,by simp⟩) (kC rk) k2
    ·have Ut:Src O.P w ti.size k mZ (.slice (some ⟨p.b,p.o+o0,none⟩) k c):=Hh (by omega) (fun j u hj=>by rw [oE];exact f3 j u hj)
     have hr:=Pv (P:=O.P) (ty:=b') (w:=w) BF hu zZ Us rfl Ut ew (by omega) c1 c2;have lO:=grownCap_ge w (k+n) c e;have lF:=P2 (e:=e) (z:=zv) (cap:=grownCap w (k+n) c e) hh (lU f1 ie) (need:=k+n) (sz:=ti.size) (by rw [yQ,f2,aeW,ew.2.1,wG]) JH (pu&&aJ new) pg lO;obtain ⟨k1,k2⟩:=P3 hh (hp0:=dz hp id) (p:=⟨w.heap.size,0,grownCap w (k+n) c e*ti.size,ti.size⟩) (fun i q h=>by
      rw [Hg] at h;by_cases hi:id=i
      ·simp [hi] at h
      ·simpa only [hi,yR] using h) rfl lF
     exact Ht (aT _ _ (by rw [ex];exact hr)) k1 (by simp only [aj];exact ⟨_,_,eC,rfl,lO,by simp⟩) (kC rk) k2
  | _=>rw [hx] at hv;simp at hv
end
end
section
open Go
section
variable {O:bw} {H:Hint} {m:Mp} {S:Nat->Prop} {w:yh} {tm:Env} {a:Act} {hp:Hp} {ct:Nat}
def ahS {n:Nat} {cs:List AV} (h:aJ cs=true):aJ (cs.take n)=true:=B5 n h
def W3:∀(n:Nat) {cs:List AV},bQ cs=true->bQ (cs.take n)=true
 | 0,_,_=>by simp [bQ]
 | n+1,[],_=>by simp [bQ]
 | n+1,c::cs,h=>by
  simp only [List.take_succ_cons,bQ,yf] at h ⊢;exact ⟨h.1,W3 n h.2⟩
def alr {o:yY} {b':yx} {t u e:yx} {sz:Nat} {x y:xB} {v:AV} {ao:Hp} {bh:Nat} (hH:fF O H) (ht:cp O m S w tm a.tmps) (hh:aZ O m S w hp ct)
  (fC:(execOp a.eval o).run O.P w=((do pure (.value (<-Builtin.copy_ #[t,u] b' #[a.eval x,a.eval y])):Sem yaE)).run O.P w)
  (BF:O.P.underlying t=some (.slice e)) (hs:cP O.P e=some sz)
  (hv:dc tm hp ct (.pc sz (aR H x) (aR H y))=some (v,ao,bh)):zf O m S w a hp ct o v ao bh:=by
 simp only [dc] at hv
 cases CJ:pM hp sz (az tm (aR H y)) with
 | none=>simp [CJ] at hv
 | some q=>
  obtain ⟨n,new⟩:=q;simp only [CJ] at hv;obtain ⟨news,ie,ew⟩:=XN hh (cF hH ht y) CJ;have Od:=iF _ _ ie;have rx:=cF hH ht x;cases hx:az tm (aR H x)<;>rw [hx] at hv rx<;>simp only [reduceCtorEq] at hv
  rename_i id o0 k;simp only [aj] at rx;obtain ⟨p,c,hm,ex,h1,h2⟩:=rx
  split at hv
  case h_2=>cases hv
  rename_i pu Ob zz cs hg
  cases hc:(yr zz sz&&(yE (o0+k*sz) cs.length&&bQ new)) with
  | false=>rw [hc] at hv;cases hv
  | true=>
   rw [hc] at hv;simp only [ym,yc,yk] at hv;obtain ⟨rfl,rfl,rfl⟩:=hv;simp only [yf] at hc;have c0:=yo hc.1;have c1:=yt hc.2.1;subst c0;obtain ⟨p',arr,t',g1,g2,g3,g4,g5,g6,g7,g8,g9,g10⟩:=hh.obj id _ _ hg hm;rw [hm] at g1;injection g1 with g1
   subst g1;have aeX:min n k*zz<=k*zz:=yZ _ (Nat.min_le_right _ _);have azt:min n k*zz<=n*zz:=yZ _ (yaJ _ _);have rt:=DN (min n k*zz) ie;have nh:(news.take (min n k*zz)).length=min n k*zz:=by rw [yT,ew.2.1];omega
   have azD:(new.take (min n k*zz)).length=min n k*zz:=by rw [yT,<-Od,ew.2.1];omega
   have fH:=K2 rt (W3 _ hc.2.2);have hf:=ew.2.2 w rfl (min n k) (yaJ _ _);have bf:=run_storeCells_at O.P p.b (p.o+o0) t' (news.take (min n k*zz)) 0 arr w g2 (by rw [nh];omega) fH;simp only [yX] at bf;have nU:fB O m S (w.setRow p.b (arr.toList.take (p.o+o0)++news.take (min n k*zz)++arr.toList.drop (p.o+o0+(news.take (min n k*zz)).length)).toArray) id
     (.cells true (pu&&aJ new) Ob zz (over o0 (new.take (min n k*zz)) cs)):=by
    refine ⟨p,_,t',hm,setRow_heap w p.b arr _ t' _ g2,g3,by rw [Lk (by omega)];exact g4,?_,fun h=>by rw [Lk (by omega)];exact g6 h,?_,?_,fun _=>g9 rfl,by simp⟩
    ·rw [ux,yQ,yQ,yT,wu,vH,nh];omega
    ·exact Zx g2 g7 rt (by omega) (by omega) dI.refl (fun _ h=>h) (fun b hb=>setRow_other w p.b b _ (fun e=>g9 rfl (e▸hb))) (setRow_heap w p.b arr _ t' _ g2)
    ·intro h;simp only [yf] at h;exact XL (g8 h.1) (ahS h.2)
   obtain ⟨e1,e2⟩:=Hr hh hg hm (g9 rfl) (PI w p.b _) nU (fun r hr=>by rw [g2] at hr;cases hr)
   refine Ht (u:=goInt ((min n k:Nat):Int)) (m':=m) (S':=S) ?_ e1 (by simp [aj,goInt]) dI.refl e2;rw [fC,ex];simp [Builtin.copy_,run_underlying BF,ew.1 w,ns hs,show Nat.min n k=min n k from rfl,hf,bf]
def anR {o:yY} {k:Nat} {v:AV} {ao:Hp} {bh:Nat} (hH:fF O H) (ht:cp O m S w tm a.tmps) (hh:aZ O m S w hp ct)
  (hv:dc tm hp ct (br O.P H k o)=some (v,ao,bh)):zf O m S w a hp ct o v ao bh:=by
 have mr:∀{r:AV×Hp×Nat},dc tm hp ct bad=some r->False:=fun h=>by simp [bad,dc] at h
 cases ho:o.op with
 | call c=>
  obtain ⟨callee,args,ts⟩:=c;simp only [br,ho] at hv
  split at hv
  ·cases Um:H.mode k<;>simp [Um,dc] at hv
  ·rename_i _ b
   split at hv
   ·rename_i x y t u gL po;obtain ⟨al⟩:=args;obtain ⟨tl⟩:=ts;simp only at gL po;subst gL;subst po;obtain ⟨cs,fC⟩:=G3 (O:=O) (w:=w) (a:=a) ho;have R7:(execOp a.eval o).run O.P w=((do pure (.value (<-Builtin.append_ #[t,u] o.type #[a.eval x,a.eval y])):Sem yaE)).run O.P w:=by
     rw [fC];simp [builtin]
    have key:∀{z:AV} {sz by':Nat} {e:yx},O.P.underlying t=some (.slice e)->((∃e',O.P.underlying u=some (.slice e'))\/O.P.underlying u=some .string)->cP O.P e=some sz->Bz O.P e=some by'->mS O.P e=some z->
      dc tm hp ct (bif yr (cellsOf z).length sz then .dH sz by' (aR H x) (aR H y) else bad)=some (v,ao,bh)->zf O m S w a hp ct o v ao bh:=by
     intro z sz by' e h1 h2 h3 h4 h5 h
     cases hb:yr (cellsOf z).length sz with
     | false=>rw [hb] at h;exact (mr h).elim
     | true=>
      rw [hb] at h;exact alq hH ht hh R7 h1 h2 h3 h4 h5 (yo hb) h
    split at hv
    ·rename_i e e' h1 h2
     split at hv
     ·rename_i sz by' z h3 h4 h5
      exact key h1 (.inl ⟨_,h2⟩) h3 h4 h5 hv
     ·exact (mr hv).elim
    ·rename_i e h1 h2
     split at hv
     ·rename_i sz by' z h3 h4 h5
      exact key h1 (.inr h2) h3 h4 h5 hv
     ·exact (mr hv).elim
    ·exact (mr hv).elim
   ·repeat' split at hv
    all_goals simp [dc,bad] at hv
   ·rename_i x y t u gL po;obtain ⟨al⟩:=args;obtain ⟨tl⟩:=ts;simp only at gL po;subst gL;subst po;obtain ⟨cs,fC⟩:=G3 (O:=O) (w:=w) (a:=a) ho;have R7:(execOp a.eval o).run O.P w=((do pure (.value (<-Builtin.copy_ #[t,u] o.type #[a.eval x,a.eval y])):Sem yaE)).run O.P w:=by
     rw [fC];simp [builtin]
    split at hv
    ·rename_i e h1
     split at hv
     ·rename_i sz h3;exact alr hH ht hh R7 h1 h3 hv
     ·exact (mr hv).elim
    ·exact (mr hv).elim
   ·simp [dc] at hv
   ·simp [dc] at hv
   ·exact (mr hv).elim
  ·exact (mr hv).elim
 | store t x y=>
  simp only [br,ho] at hv
  split at hv
  ·rename_i s hs;exact anN hH ht hh ho hs hv
  ·exact (mr hv).elim
 | mapUpdate t x k y=>
  simp only [br,ho] at hv
  split at hv
  ·rename_i kt e hu
   split at hv
   ·rename_i kk rS;exact Zy hH ht hh (.inl ho) hu rS hv
   ·exact (mr hv).elim
  ·exact (mr hv).elim
 | insert t x k y=>
  simp only [br,ho] at hv
  split at hv
  ·rename_i kt e hu
   split at hv
   ·rename_i kk rS;exact Zy hH ht hh (.inr ho) hu rS hv
   ·exact (mr hv).elim
  ·exact (mr hv).elim
 | next x b=>
  cases b with
  | false=>simp only [br,ho] at hv;exact (mr hv).elim
  | true=>exact alp hH ht hh ho (by simpa only [br,ho] using hv)
 | binOp op t x y ty=>
  cases op<;>simp only [br,ho,qZ,sM] at hv
  case eql=>
        repeat' split at hv
        all_goals first
         | (simp [dc,bad] at hv;done)
         | (cases hb:(O.P.stoodInHeld t||O.P.eqGuardType O.P.depth t)<;>rw [hb] at hv<;>simp [dc,bad] at hv)
  case neq=>
        repeat' split at hv
        all_goals first
         | (simp [dc,bad] at hv;done)
         | (cases hb:(O.P.stoodInHeld t||O.P.eqGuardType O.P.depth t)<;>rw [hb] at hv<;>simp [dc,bad] at hv)
  all_goals simp [dc] at hv
 | buildSlice t n parts=>
  simp only [br,ho] at hv
  repeat' split at hv
  all_goals first
   | (simp [dc,bad] at hv;done)
   | (
     revert hv;generalize yE _ _=bb;intro hv;cases bb<;>simp [dc,bad] at hv
     try (split at hv<;>simp [dc,bad] at hv))
 | makeMap t r=>
  cases r<;>simp only [br,ho] at hv
  ·repeat' split at hv
   all_goals simp [dc,bad] at hv
  ·exact (mr hv).elim
 | _=>
  simp only [br,ho] at hv
  (repeat' split at hv)
  all_goals first
   | contradiction
   | (simp [dc,bad] at hv;done)
end
end
section
section
variable {hp H:Hp} {tm tm':Env}
def aaz (hl:dt hp H) {id:Nat} {rw pu ex:Bool} {sz:Nat} {cs:List AV} (h:ap hp id=some (.cells rw pu ex sz cs)):∃eY,ap H id=some (.cells eY pu ex sz cs):=by
 obtain ⟨o',h1,eY,rfl,_⟩:=hl id _ h;exact ⟨eY,h1⟩
def aaA (hl:dt hp H) {id:Nat} {rw:Bool} {ks vs:List AV} (h:ap hp id=some (.mp rw ks vs)):∃eY,ap H id=some (.mp eY ks vs):=by
 obtain ⟨o',h1,eY,rfl,_⟩:=hl id _ h;exact ⟨eY,h1⟩
def aaB (hl:dt hp H) {sz:Nat} {ag:Bool} {x v:AV} (h:iK hp sz ag x=some v):iK H sz ag x=some v:=by
 cases x<;>simp only [iK,reduceCtorEq] at h ⊢
 ·rename_i id o
  cases hg:ap hp id with
  | none=>simp [hg] at h
  | some ob=>
   cases ob<;>simp only [hg,reduceCtorEq] at h
   obtain ⟨r,h1⟩:=aaz hl hg;simp only [h1];exact h
 ·exact h
def als (hl:dt hp H) {k x:AV} {v:Option AV} (h:AY hp k x=some v):AY H k x=some v:=by
 cases x<;>simp only [AY,reduceCtorEq] at h ⊢
 ·exact h
 ·rename_i id
  cases hg:ap hp id with
  | none=>simp [hg] at h
  | some ob=>
   cases ob<;>simp only [hg,reduceCtorEq] at h
   obtain ⟨r,h1⟩:=aaA hl hg;simp only [h1];exact h
 ·exact h
def alt (hl:dt hp H) {k:Nat} {x v:AV} (h:gK hp k x=some v):gK H k x=some v:=by
 unfold gK at h ⊢
 split at h
 all_goals first
  | exact h
  | cases h
  | skip
 rename_i id
 cases hg:ap hp id with
 | none=>simp [hg] at h
 | some ob=>
  cases ob<;>simp only [hg,reduceCtorEq] at h
  obtain ⟨r,h1⟩:=aaA hl hg;simp only [h1];exact h
def alu (hl:dt hp H) {k:Cut} {x v:AV} {lo hi:Option X} (h:fA hp k x tm lo hi=some v):fA H k x tm lo hi=some v:=by
 unfold fA at h ⊢
 split at h
 all_goals first
  | exact h
  | cases h
  | skip
 rename_i sz id o n
 cases hg:ap hp id with
 | none=>simp [hg] at h
 | some ob=>
  cases ob<;>simp only [hg,reduceCtorEq] at h
  obtain ⟨r,h1⟩:=aaz hl hg;simp only [h1];exact h
def aju (hl:dt hp H) {o:Op} {v:AV} (h:bC tm hp o=some v):bC tm H o=some v:=by
 cases o<;>simp only [bC,reduceCtorEq] at h ⊢<;>first
  | exact h
  | exact aaB hl h
  | exact alt hl h
  | exact alu hl h
  | skip
 rename_i kk zero ok m k
 cases hk:sL kk (az tm k) with
 | false=>rw [hk] at h;cases h
 | true=>
  rw [hk] at h;simp only [ym] at h ⊢
  cases hr:AY hp (az tm k) (az tm m) with
  | none=>simp [hr] at h
  | some r=>rw [als hl hr];simpa only [hr] using h
def ajv {o:Op} (hk:bG o=0) (hp H:Hp):bC tm hp o=bC tm H o:=by
 cases o with
 | ef k x lo hi=>
  cases k with
  | str=>simp only [bC,fA];cases az tm x<;>rfl
  | sl sz=>simp [bG] at hk
  | ar n sz=>simp [bG] at hk
 | len k x=>
  match k,hk with
  | 0,_=>simp only [bC];unfold gK;split<;>simp_all
  | 1,_=>simp only [bC];unfold gK;split<;>simp_all
  | k+2,hk=>simp [bG] at hk
 | call md f xs=>cases md<;>simp [bG] at hk
 | _=>first
  | rfl
  | simp [bG] at hk
end
section
variable {tm tm':Env}
def dY {x:X} (h:∀t,t∈ju x->af tm' t=af tm t):az tm' x=az tm x:=by
 cases x with
 | t i=>exact h i (by simp [ju])
 | c v=>rfl
def B9:∀{xs:List X},(∀t,t∈sT xs->af tm' t=af tm t)->dD tm' xs=dD tm xs
 | [],_=>rfl
 | x::r,h=>by
  simp only [dD]
  rw [dY (x:=x) (fun t ht=>h t (by simp [sT,ht])),B9 (fun t ht=>h t (by simp [sT,ht]))]
def P4:∀{ps:List (Nat×Nat×X)} {z:List AV},(∀t,t∈It ps->af tm' t=af tm t)->fill tm' z ps=fill tm z ps
 | [],_,_=>rfl
 | (o,s,x)::r,z,h=>by
  simp only [fill]
  rw [dY (x:=x) (fun t ht=>h t (by simp [It,ht]))]
  rw [P4 (ps:=r) (fun t ht=>h t (by simp [It,ht]))]
def XO {d:Nat} {x:Option X} (h:∀t,t∈Is x->af tm' t=af tm t):cV tm' d x=cV tm d x:=by
 cases x with
 | none=>rfl
 | some x=>simp only [cV];rw [dY h]
def air {hp:Hp} {k:Cut} {x:AV} {lo hi:Option X} (h1:∀t,t∈Is lo->af tm' t=af tm t) (h2:∀t,t∈Is hi->af tm' t=af tm t):
  fA hp k x tm' lo hi=fA hp k x tm lo hi:=by
 unfold fA;simp only [XO h1,XO h2]
def ahT {hp:Hp} {o:Op} (h:∀t,t∈kE o->af tm' t=af tm t):bC tm' hp o=bC tm hp o:=by
 cases o<;>simp only [kE,wQ] at h<;>simp only [bC]
 case pick c a b=>rw [dY (x:=c) fun t ht=>h t (.inl ht),dY (x:=a) fun t ht=>h t (.inr (.inl ht)),dY (x:=b) fun t ht=>h t (.inr (.inr ht))]
 case dj z ps=>rw [P4 h]
 case oW f a b=>rw [B9 (xs:=a) fun t ht=>h t (.inl ht),B9 (xs:=b) fun t ht=>h t (.inr ht)]
 case ef k x lo hi=>rw [dY (x:=x) fun t ht=>h t (.inl ht),air (fun t ht=>h t (.inr (.inl ht))) (fun t ht=>h t (.inr (.inr ht)))]
 case mn xs=>rw [B9 h]
 case mx xs=>rw [B9 h]
 case bin op x y=>rw [dY (x:=x) fun t ht=>h t (.inl ht),dY (x:=y) fun t ht=>h t (.inr ht)]
 case eq n k x y=>rw [dY (x:=x) fun t ht=>h t (.inl ht),dY (x:=y) fun t ht=>h t (.inr ht)]
 case bj s x y=>rw [dY (x:=x) fun t ht=>h t (.inl ht),dY (x:=y) fun t ht=>h t (.inr ht)]
 case Bw l s x y=>rw [dY (x:=x) fun t ht=>h t (.inl ht),dY (x:=y) fun t ht=>h t (.inr ht)]
 case kU x y=>rw [dY (x:=x) fun t ht=>h t (.inl ht),dY (x:=y) fun t ht=>h t (.inr ht)]
 case zT l s g x y=>rw [dY (x:=x) fun t ht=>h t (.inl ht),dY (x:=y) fun t ht=>h t (.inr ht)]
 case N8 kk z ok x y=>rw [dY (x:=x) fun t ht=>h t (.inl ht),dY (x:=y) fun t ht=>h t (.inr ht)]
 all_goals first
  | rfl
  | (rename_i x;rw [dY (x:=x) h])
def G4 {hp ao:Hp} {ct:Nat} {o:Op} (h:∀t,t∈kE o->af tm' t=af tm t):cU tm' ao ct o=cU tm hp ct o:=by
 cases o<;>simp only [kE,wQ] at h<;>simp only [cU]
 case box s x=>rw [dY (x:=x) h]
 case bV n s z ps=>rw [P4 h]
 case gP s b z x y=>rw [dY (x:=x) fun t ht=>h t (.inl ht),dY (x:=y) fun t ht=>h t (.inr ht)]
 case oY x=>rw [dY (x:=x) h]
def DG {hp:Hp} {ct:Nat} {o:Op} (h:∀t,t∈kE o->af tm' t=af tm t):dc tm' hp ct o=dc tm hp ct o:=by
 cases o<;>simp only [kE,wQ] at h<;>simp only [dc]
 case st s x y=>rw [dY (x:=x) fun t ht=>h t (.inl ht),dY (x:=y) fun t ht=>h t (.inr ht)]
 case oX kk c a b=>rw [dY (x:=c) fun t ht=>h t (.inl ht),dY (x:=a) fun t ht=>h t (.inr (.inl ht)),dY (x:=b) fun t ht=>h t (.inr (.inr ht))]
 case oZ x=>rw [dY (x:=x) h]
 case dH s b x y=>rw [dY (x:=x) fun t ht=>h t (.inl ht),dY (x:=y) fun t ht=>h t (.inr ht)]
 case pc s x y=>rw [dY (x:=x) fun t ht=>h t (.inl ht),dY (x:=y) fun t ht=>h t (.inr ht)]
end
end
end VE
