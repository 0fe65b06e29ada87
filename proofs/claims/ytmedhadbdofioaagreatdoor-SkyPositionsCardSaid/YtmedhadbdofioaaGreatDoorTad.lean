import Derived.Laws.CopyOwn
import Derived.Test.YtmedhadbdofioaaGreatDoorTac
set_option linter.all false
set_option maxRecDepth 100000
open Array renaming length_toList→vt
open Bool renaming and_eq_true→yg,false_eq_true→yD
open Go renaming Loop→ud,MapEntry→uf,Next→yaf,Obj→yaA,Oper→yZ,Operand→xA,Program→y6,TypeDesc→wV,TypeId→yx,TypeInfo→ybr,Value→yf,World→yi,sizeOf→vU
open List renaming append_assoc→xp,cons_append→y7,eq_nil_of_length_eq_zero→yJ,ext_getElem?→tS,getElem?_append_left→xO,getElem?_append_right→xD,getElem?_drop→tI,getElem?_eq_some_iff→xR,getElem?_take_of_lt→vK,getElem?_toArray→vV,length_append→yQ,length_drop→xS,length_take→yT,map_cons→yU,mem_append→wv,size_toArray→vH,take_of_length_le→yM
open Nat renaming add_mul→wj,add_zero→yX,beq→yu,beq_refl→xq,ble→yG,blt→yK,eq_of_beq_eq_true→yp,eq_zero_or_pos→xo,le_of_ble_eq_true→yy,le_refl→yC,min_le_left→yak,mul_le_mul_right→yW,zero_add→yd
open Option renaming isSome_none→to
open Option.some renaming injEq→yc
open Prod.mk renaming injEq→yk
open UInt8 renaming toNat→yY
namespace VE
section
open Go
section
variable {O:bA} {H:Hint} {m:Mp} {S:Nat->Prop} {w:yi} {tm:Env} {a:Act} {hp:Hp} {ct:Nat}
structure One (w w':yi) (g:Nat):Prop where
 os:w'.os=w.os
 tape:w'.tape=w.tape
 output:w'.output=w.output
 size:w'.heap.size=w.heap.size
 other:∀b,b≠g->w'.heap[b]? =w.heap[b]?
def QO (w:yi) (g:Nat) (cs:Array yf):One w (w.setRow g cs) g:=
 ⟨rfl,rfl,rfl,by simp,fun b hb=>setRow_other w g b cs hb⟩
def Iv {id:Nat} {o:Obj} {p:Pl} (h:ak hp id=some o) (hm:m id=some p):eE m hp p.b:=⟨id,o,p,h,hm,rfl⟩
def amg {id:Nat} {o':Obj} {b:Nat} (h:eE m (aW hp id o') b):eE m hp b:=by
 obtain ⟨i,o,p,h1,h2,h3⟩:=h;rw [re] at h1;by_cases hi:id=i
 ·subst hi
  cases hq:ak hp id with
  | none=>simp [hq] at h1
  | some q=>exact ⟨id,q,p,hq,h2,h3⟩
 ·simp only [hi,yO] at h1;exact ⟨i,o,p,h1,h2,h3⟩
def HW (hh:bf O m S w hp ct) {id:Nat} {o o':Obj} {p:Pl} {w':yi} (ho:ak hp id=some o) (hm:m id=some p) (hn:¬S p.b) (hw:One w w' p.b) (h':fM O m S w' id o') (hk:∀r:ud,w.heap[p.b]? =some (.loop r)->∃r':ud,w'.heap[p.b]? =some (.loop r')):
  bf O m S w' (aW hp id o') ct/\cB m S w hp m S w' (aW hp id o') ct:=by
 have aX:gm S w w':=fun b hb=>hw.other b (fun e=>hn (e▸hb))
 refine ⟨⟨?_,hh.lt,?_,?_,?_,hh.low,?_,?_,fun i q hq=>(by
  rw [re] at hq;by_cases hc:id=i
  ·subst hc;exact hh.bi _ _ ho
  ·simp only [hc,yO] at hq;exact hh.bi _ _ hq)⟩,⟨hw.os,hw.tape,hw.output,by rw [hw.size];exact yC _,?_,fun _ h=>h,fun b hb=>aX b hb,fun b hb=> .inl hb,fun b hb=> .inl (amg hb),fun _ _ _ h=>h,fun b r hb=>?_⟩⟩
 rotate_right
 ·by_cases hc:b=p.b
  ·subst hc;exact hk r hb
  ·exact ⟨r,(hw.other b hc).trans hb⟩
 ·intro i q pi hi bL;rw [re] at hi;by_cases hc:id=i
  ·subst hc;simp only [y5,ho,Option.isSome_some] at hi;injection hi with hi
   subst hi;exact h'
  ·simp only [hc,yO] at hi;refine rb (fun _ _ h=>h) (fun _ h=>h) aX (fun q' cd=>?_) (fun _ _ h=>h) (hh.obj i q pi hi bL);exact hw.other _ (fun e=>hc (hh.inj i id q o q' p hi ho cd hm e).symm)
 ·intro i j oi oj pi pj hi hj bL gE e;have key:∀{i:Nat} {oi:Obj},ak (aW hp id o') i=some oi->∃Kr,ak hp i=some Kr:=by
   intro i oi hi;rw [re] at hi;by_cases hc:id=i
   ·subst hc;exact ⟨o,ho⟩
   ·simp only [hc,yO] at hi;exact ⟨oi,hi⟩
  obtain ⟨Kr,cu⟩:=key hi;obtain ⟨Kq,qK⟩:=key hj;exact hh.inj i j Kr Kq pi pj cu qK bL gE e
 ·intro b hb;rw [hw.size];exact hh.slt b hb
 ·intro i q hq;rw [hw.size];exact hh.blt i q hq
 ·intro b hb
  rw [hw.other b (fun e=>by have:=hh.low id p hm;omega)];exact hh.lR b hb
 ·rw [hw.size];exact hh.gA
 ·intro b _ hb;exact hw.other b (fun e=>hb (e▸Iv ho hm))
def zq (O:bA) (m:Mp) (S:Nat->Prop) (w:yi) (a:Act) (hp:Hp) (ct:Nat) (o:yZ) (v:AV) (ao:Hp) (bg:Nat):Prop:=
 ∃n u w' m' S',(execOp a.eval o).run O.P w= .ok n w'/\(n= .value u\/(n= .skip/\u=undef))/\bf O m' S' w' ao bg/\aj O.ai m' S' w' v u/\dM m m'/\cB m S w hp m' S' w' ao ct
def amh {ai:Nat->Nat} {v:AV} {u:yf} (h:aj ai m S w v u) (ho:bm v=true):u.oneCell'=true:=by
 cases v with
 | fn f a b=>
  cases f with
  | f g=>simp only [aj] at h;obtain ⟨_,_,rfl,_⟩:=h;rfl
  | y l=>simp only [aj] at h;obtain ⟨_,_,rfl⟩:=h;rfl
 | int k n=>simp only [aj] at h;subst h;rfl
 | bool b=>simp only [aj] at h;subst h;rfl
 | dE k n=>simp only [aj] at h;subst h;rfl
 | str s=>simp only [aj] at h;obtain ⟨_,rfl,_⟩:=h;rfl
 | kB=>simp only [aj] at h;subst h;rfl
 | ptr i k=>simp only [aj] at h;obtain ⟨_,_,rfl⟩:=h;rfl
 | aI cs=>simp only [aj] at h;obtain ⟨_,_,rfl,_⟩:=h;rfl
 | ab=>simp only [aj] at h;subst h;rfl
 | aE e n cs=>simp only [aj] at h;rcases h with ⟨_,_,_,rfl,_⟩ | ⟨_,rfl,_,_⟩<;>rfl
 | cJ _ _ _ _=>simp [bm] at ho
 | an i k n=>simp only [aj] at h;obtain ⟨_,_,_,rfl,_⟩:=h;rfl
 | iA=>simp only [aj] at h;subst h;rfl
 | jP=>simp only [aj] at h;subst h;rfl
 | map i=>simp only [aj] at h;obtain ⟨_,_,rfl⟩:=h;rfl
 | jy ks vs=>simp only [aj] at h;obtain ⟨_,_,_,rfl,_⟩:=h;rfl
 | it i=>simp only [aj] at h;obtain ⟨_,_,rfl⟩:=h;rfl
 | agg cs=>simp [bm] at ho
 | ap cs=>simp [bm] at ho
 | undef=>simp [bm] at ho
def L2 {ai:Nat->Nat}:∀{vs:List AV} {us:List yf},au ai m S w vs us->bK vs=true->∀u∈us,u.oneCell'=true
 | [],us,h,_,u,hu=>by simp only [au] at h;subst h;cases hu
 | v::r,us,h,ho,u,hu=>by
  obtain ⟨u',t,rfl,h1,h2⟩:=h;simp only [bK,yg] at ho;rcases List.mem_cons.1 hu with rfl | hu
  ·exact amh h1 ho.1
  ·exact L2 h2 ho.2 u hu
def aaf {arr:Array yf} {t:yx} {p:Pl} {cs new:List AV} {vs:List yf} {o:Nat} {S':Nat->Prop} {m':Mp} (hb:w.heap[p.b]? =some (.cells arr t (0,0))) (hr:bW O.ai m S w cs p.b p.o)
  (hv:au O.ai m S w new vs) (hl:o+new.length<=cs.length) (hs:p.o+cs.length<=arr.size) {w':yi} (hm:dM m m') (hS:∀b,S b->S' b) (aX:gm S w w')
  (hw:w'.heap[p.b]? =some (.cells (arr.toList.take (p.o+o)++vs++arr.toList.drop (p.o+o+vs.length)).toArray t (0,0))):bW O.ai m' S' w' (over o new cs) p.b p.o:=by
 obtain ⟨us,h1,h2,h3⟩:=sM cs p.b p.o hr;have hvl:=iY _ _ hv;have h4:au O.ai m S w (over o new cs) (us.take o++vs++us.drop (o+new.length)):=mf (mf (Ed o h1) hv) (HJ _ h1);refine Eh _ _ _ (iq hm hS aX _ _ h4) (fun j u hj=>?_);have rB:∀k u,us[k]? =some u->arr[p.o+k]? =some u:=by
  intro k u hk
  have:=h3 k u hk
  simpa [World.cell?,hb] using this
 simp only [World.cell?,hw,to,yD,yO];rw [vV];have e1:(arr.toList.take (p.o+o)).length=p.o+o:=by rw [yT,vt];omega
 have e2:(us.take o).length=o:=by rw [yT];omega
 by_cases c1:j<o
 ·have g1:(us.take o++vs++us.drop (o+new.length))[j]? =us[j]? :=by
   rw [xp,xO (by omega),vK c1]
  rw [g1] at hj;rw [xp,xO (by omega),vK (by omega)];simpa using rB j u hj
 ·by_cases c2:j<o+vs.length
  ·have g1:(us.take o++vs++us.drop (o+new.length))[j]? =vs[j-o]? :=by
    rw [xp,xD (by omega),e2,xO (by omega)]
   rw [g1] at hj;rw [xp,xD (by omega),e1,xO (by omega),show p.o+j-(p.o+o)=j-o by omega];exact hj
  ·have g1:(us.take o++vs++us.drop (o+new.length))[j]? =us[j]? :=by
    rw [xp,xD (by omega),e2,xD (by omega),tI]
    congr 1
    omega
   rw [g1] at hj;rw [xp,xD (by omega),e1,xD (by omega),tI,show p.o+o+vs.length+(p.o+j-(p.o+o)-vs.length)=p.o+j by omega];simpa using rB j u hj
def Mj {o:Nat} {new cs:List AV} (hl:o+new.length<=cs.length):(over o new cs).length=cs.length:=by
 simp only [over,yQ,yT,xS];omega
def Yw {o:Nat} {new cs:List AV} (h:aH cs=true) (h':aH new=true):aH (over o new cs)=true:=
 D3 (D3 (Cg _ h) h') (AL _ _ h)
def aoH {o:yZ} {t:yx} {x y:xA} {sz:Nat} {v:AV} {ao:Hp} {bg:Nat} (hH:fT O H) (ht:cw O m S w tm a.tmps) (hh:bf O m S w hp ct)
  (ho:o.op= .store t x y) (hz:cT O.P t=some sz) (hv:di tm hp ct (.st sz (aT H x) (aT H y))=some (v,ao,bg)):zq O m S w a hp ct o v ao bg:=by
 simp only [di] at hv;have rx:=cI hH ht x;cases hx:aA tm (aT H x)<;>rw [hx] at hv rx<;>simp only [reduceCtorEq] at hv
 rename_i id k;simp only [aj] at rx;obtain ⟨p,hm,ex⟩:=rx
 split at hv
 case h_2=>cases hv
 rename_i pu Pk z cs hg
 cases hc:(yu (cellsOf (aA tm (aT H y))).length sz&&yG (k+sz) cs.length&&bK (cellsOf (aA tm (aT H y)))) with
 | false=>rw [hc] at hv;cases hv
 | true=>
  rw [hc] at hv;simp only [ym,yc,yk] at hv;obtain ⟨rfl,rfl,rfl⟩:=hv;simp only [yg] at hc;have c1:=yp hc.1.1;have c2:=yy hc.1.2;have ry:=Q3 (cI hH ht y) hc.2;have hl:=iY _ _ ry;obtain ⟨p',arr,t',g1,g2,g3,g4,g5,g6,g7,g8,g9,g10⟩:=hh.obj id _ _ hg hm;rw [hm] at g1;injection g1 with g1
  subst g1;have fI:=L2 ry hc.2;have fN:=run_storeCells_at O.P p.b (p.o+k) t' (a.eval y).cells.toList 0 arr w g2 (by rw [hl];omega) fI;simp only [yX] at fN;have atu:(a.eval y).cells.size=sz:=by simp_all
  have oc:fM O m S (w.setRow p.b (arr.toList.take (p.o+k)++(a.eval y).cells.toList++arr.toList.drop (p.o+k+(a.eval y).cells.toList.length)).toArray) id
    (.cells true (pu&&aH (cellsOf (aA tm (aT H y)))) Pk z (over k (cellsOf (aA tm (aT H y))) cs)):=by
   refine ⟨p,_,t',hm,setRow_heap w p.b arr _ t' _ g2,g3,by rw [Mj (by omega)];exact g4,?_,fun h=>by rw [Mj (by omega)];exact g6 h,?_,?_,fun _=>g9 rfl,by simp⟩
   ·grind
   ·exact aaf g2 g7 ry (by omega) (by omega) dM.refl (fun _ h=>h) (fun b hb=>setRow_other w p.b b _ (fun e=>g9 rfl (e▸hb))) (setRow_heap w p.b arr _ t' _ g2)
   ·intro h;simp only [yg] at h;exact Yw (g8 h.1) h.2
  obtain ⟨e1,e2⟩:=HW hh hg hm (g9 rfl) (QO w p.b _) oc (fun r hr=>by rw [g2] at hr;cases hr);refine ⟨.skip,undef,_,m,S,?_,.inr ⟨rfl,rfl⟩,e1,by simp [aj,au,undef],dM.refl,e2⟩;simp only [execOp,ho,Instr.storeAt,ex,Instr.sureAddr,Sem.run_bind,Sem.run_pure,Result.andThen_ok,storeVar,nA hz,atu,tJ,wQ,yO];simp [fN]
def Yx {d:wV} {k k':yf} (h:Instr.sameNow d k k'=some true):k=k':=by
 unfold Instr.sameNow at h
 split at h
 ·grind
 ·rename_i p q;simp only [yc] at h;have h2:(p.data==q.data)=true:=by cases p;exact h
  cases p;cases q
  grind
 ·grind
 ·cases h
def sameBits_self {d:wV} {k k':yf} (h:Instr.sameNow d k k'=some true) (n:Nat):Instr.sameBits n k' k=true:=by
 have e:=Yx h;subst e;unfold Instr.sameNow at h
 split at h
 ·simp [Instr.sameBits]
 ·simp only [yc] at h;simp [Instr.sameBits,h]
 ·simp [Instr.sameBits]
 ·cases h
def Put (ai:Nat->Nat) (m:Mp) (S:Nat->Prop) (w:yi) (d:wV) (k x:yf) (es:List uf) (i:Nat) (kD eD:List AV):Prop:=
 (Instr.findNow d k es i=some none/\au ai m S w kD (es.map (·.key)++[k])/\au ai m S w eD (es.map (·.val)++[x]))\/
 ∃(j:Nat) (e0:uf),Instr.findNow d k es i=some (some (i+j,e0.val))/\es[j]? =some e0/\Instr.sameNow d k e0.key=some true/\au ai m S w kD (es.map (·.key))/\au ai m S w eD ((es.map (·.val)).set j x)
def abd {ai:Nat->Nat} {vk vx:AV} {k x:yf} {d:wV} (hk:aj ai m S w vk k) (hx:aj ai m S w vx x) (hd:fits d vk=true):∀(ks vs:List AV) (es:List uf) (i:Nat) (kD eD:List AV),
  au ai m S w ks (es.map (·.key))->au ai m S w vs (es.map (·.val))->Bp vk vx ks vs=some (kD,eD)->Put ai m S w d k x es i kD eD
 | [],[],es,i,kD,eD,h1,h2,h=>by
  simp only [au,List.map_eq_nil_iff] at h1;subst h1;obtain ⟨rfl,rfl⟩:=h;exact .inl ⟨rfl,by simp [au,hk],by simp [au,hx]⟩
 | [],_::_,es,i,kD,eD,h1,h2,h=>by simp [Bp] at h
 | _::_,[],es,i,kD,eD,h1,h2,h=>by simp [Bp] at h
 | c::ks,v::vs,es,i,kD,eD,h1,h2,h=>by
  cases es with
  | nil=>simp [au] at h1
  | cons e es=>
   obtain ⟨u,t,⟨rfl,rfl⟩,hc,Pj⟩:=h1;obtain ⟨u',t',⟨rfl,rfl⟩,hv,Aa⟩:=h2;simp only [Bp] at h
   cases Ab:EU vk c with
   | none=>simp [Ab] at h
   | some b=>
    have hs:=aab (d:=d) hk hc Ab hd
    cases b with
    | true=>
     simp only [Ab,yc,yk] at h;obtain ⟨rfl,rfl⟩:=h;refine .inr ⟨0,e,by simp [Instr.findNow,hs],rfl,hs,?_,?_⟩
     ·simp only [yU,au];exact ⟨_,_,rfl,hc,Pj⟩
     ·simp only [yU,List.set_cons_zero,au];exact ⟨_,_,rfl,hx,Aa⟩
    | false=>
     simp only [Ab] at h
     cases hm:Bp vk vx ks vs with
     | none=>simp [hm] at h
     | some q=>
      obtain ⟨k1,v1⟩:=q;simp only [hm,yc,yk] at h;obtain ⟨rfl,rfl⟩:=h;rcases abd hk hx hd ks vs es (i+1) k1 v1 Pj Aa hm with ⟨g1,g2,g3⟩ | ⟨j,e0,g1,g2,g3,g4,g5⟩
      ·refine .inl ⟨by simp [Instr.findNow,hs,g1],?_,?_⟩
       ·simp only [yU,y7,au];exact ⟨_,_,rfl,hc,g2⟩
       ·simp only [yU,y7,au];exact ⟨_,_,rfl,hv,g3⟩
      ·refine .inr ⟨j+1,e0,?_,by simpa using g2,g3,?_,?_⟩
       ·simp only [Instr.findNow,hs,g1]
        grind
       ·simp only [yU,au];exact ⟨_,_,rfl,hc,g4⟩
       ·simp only [yU,List.set_cons_succ,au];exact ⟨_,_,rfl,hv,g5⟩
def D9 (w:yi) (g:Nat) (o:yaA):One w {w with heap:=w.heap.setIfInBounds g o} g:=
 ⟨rfl,rfl,rfl,by simp,fun b hb=>by simp [Array.getElem?_setIfInBounds_ne (fun e=>hb e.symm)]⟩
def LK {g:Nat} {o q:yaA} (h:w.heap[g]? =some q):({w with heap:=w.heap.setIfInBounds g o}:yi).heap[g]? =some o:=by grind
def aag {o:yZ} {t kt e:yx} {x k y:xA} {kk:Nat} {v:AV} {ao:Hp} {bg:Nat} (hH:fT O H) (ht:cw O m S w tm a.tmps) (hh:bf O m S w hp ct)
  (ho:o.op= .mapUpdate t x k y\/o.op= .insert t x k y) (hu:O.P.underlying t=some (.map kt e)) (r9:VE.keyOf O.P kt=some kk) (hv:di tm hp ct (.pn kk (aT H x) (aT H k) (aT H y))=some (v,ao,bg)):zq O m S w a hp ct o v ao bg:=by
 simp only [di] at hv;have rx:=cI hH ht x;cases hx:aA tm (aT H x)<;>rw [hx] at hv rx<;>simp only [reduceCtorEq] at hv
 rename_i id;simp only [aj] at rx;obtain ⟨p,hm,ex⟩:=rx
 split at hv
 case h_2=>cases hv
 rename_i ks vs hg
 cases hc:sS kk (aA tm (aT H k)) with
 | false=>simp [hc] at hv
 | true=>
  simp only [hc,Bool.not_true,yA] at hv
  cases bF:Bp (aA tm (aT H k)) (aA tm (aT H y)) ks vs with
  | none=>simp [bF] at hv
  | some q=>
   obtain ⟨kD,eD⟩:=q;simp only [bF,yc,yk] at hv;obtain ⟨rfl,rfl,rfl⟩:=hv;obtain ⟨d,jB,dU,Kp⟩:=Yt r9 hc;obtain ⟨p',es,clock,g1,g2,g3,g4,g5,g6⟩:=hh.obj id _ _ hg hm;rw [hm] at g1;injection g1 with g1
   subst g1;have auW:=abd (d:=d) (cI hH ht k) (cI hH ht y) Kp ks vs es.toList 0 kD eD g3 g4 bF
   have fin:∀(Dv:Array uf) (c':Nat),(Instr.mapUpdate t (a.eval x) (a.eval k) (a.eval y)).run O.P w= .ok () {w with heap:=w.heap.setIfInBounds p.b (.map Dv c')}->
     au O.ai m S w kD (Dv.toList.map (·.key))->au O.ai m S w eD (Dv.toList.map (·.val))->zq O m S w a hp ct o (.ap []) (aW hp id (.mp true kD eD)) ct:=by
    intro Dv c' fN h1 h2
    have aX:gm S w {w with heap:=w.heap.setIfInBounds p.b (.map Dv c')}:=fun b hb=>(D9 w p.b _).other b (fun e=>g5 rfl (e▸hb))
    have oc:fM O m S {w with heap:=w.heap.setIfInBounds p.b (.map Dv c')} id (.mp true kD eD):=
     ⟨p,Dv,c',hm,LK g2,iq (fun _ _ h=>h) (fun _ h=>h) aX _ _ h1,iq (fun _ _ h=>h) (fun _ h=>h) aX _ _ h2,fun _=>g5 rfl,by simp⟩
    obtain ⟨e1,e2⟩:=HW hh hg hm (g5 rfl) (D9 w p.b _) oc (fun r hr=>by rw [g2] at hr;cases hr);refine ⟨.skip,undef,_,m,S,?_,.inr ⟨rfl,rfl⟩,e1,by simp [aj,au,undef],dM.refl,e2⟩;rcases ho with ho | ho<;>simp [execOp,ho,fN]
   have qM:=Lv (P:=O.P) (w:=w) jB dU false (a.eval k);rcases auW with ⟨h1,h2,h3⟩ | ⟨j,e0,h1,h2,h3,h4,h5⟩
   ·refine fin (es.push ⟨a.eval k,a.eval y,clock⟩) (clock+1) ?_ (by simpa using h2) (by simpa using h3);rw [ex];simp [Instr.mapUpdate,run_underlying hu,MapKept.run_getObj_map g2,qM,Instr.findKey,run_underlying jB,h1,MapKept.run_setObj_map _ g2]
   ·have hj:es[j]? =some e0:=by simp_all
    simp only [yd] at h1;have afu:=Yx h3
    refine fin (es.modify j fun e=>{e with key:=a.eval k,val:=a.eval y}) clock ?_ ?_ ?_
    ·rw [ex];have Kv:Instr.sameBits 10000 (a.eval k) (a.eval k)=true:=by have:=sameBits_self h3 10000;rwa [<-afu] at this
     simp [Instr.mapUpdate,run_underlying hu,MapKept.run_getObj_map g2,qM,Instr.findKey,run_underlying jB,h1,MapKept.run_setObj_map _ g2,hj,Instr.keyThatStays,Kv,afu.symm]
    ·have:(es.modify j fun e=>{e with key:=a.eval k,val:=a.eval y}).toList.map (·.key)=es.toList.map (·.key):=by
      apply tS
      grind
     grind
    ·have:(es.modify j fun e=>{e with key:=a.eval k,val:=a.eval y}).toList.map (·.val)=(es.toList.map (·.val)).set j (a.eval y):=by
      apply tS
      grind
     grind
def aoI (t:ByteArray) (i:Nat):(t.get! i).toNat=(t.data.toList.map yY).getD i 0:=by
 have:t.get! i=t.data[i]! :=by cases t;rfl
 rw [this];by_cases h:i<t.data.size
 ·grind
 ·simp only [Array.getElem!_eq_getD,Array.getD_eq_getD_getElem?,List.getD_eq_getElem?_getD,List.getElem?_map,Array.getElem?_toList];rw [Array.getElem?_eq_none (by omega)];rfl
def aki (t:ByteArray) (i:Nat):decodeL (t.data.toList.map yY) i=Utf8.decode t i:=by
 have fa:(t.data.toList.map yY).length=t.size:=by simp
 simp only [decodeL,Utf8.decode,aoI,fa]
def ami {o:yZ} {x:xA} {v:AV} {ao:Hp} {bg:Nat} (hH:fT O H) (ht:cw O m S w tm a.tmps) (hh:bf O m S w hp ct)
  (ho:o.op= .next x true) (hv:di tm hp ct (.pq (aT H x))=some (v,ao,bg)):zq O m S w a hp ct o v ao bg:=by
 simp only [di] at hv;have rx:=cI hH ht x;cases hx:aA tm (aT H x)<;>rw [hx] at hv rx<;>simp only [reduceCtorEq] at hv
 rename_i id;simp only [aj] at rx;obtain ⟨p,hm,ex⟩:=rx
 split at hv
 case h_2=>cases hv
 rename_i s pos hg;obtain ⟨p',t,g1,g2,g3,g4⟩:=hh.obj id _ _ hg hm;rw [hm] at g1;injection g1 with g1
 subst g1;have ak:(getObj p.b).run O.P w= .ok (.stringIter t pos) w:=by simp [getObj,Sem.run,g2]
 have hlen:s.length=t.size:=by rw [<-g3];simp
 cases hc:yK pos s.length with
 | false=>
  rw [hc] at hv;simp only [yA,yc,yk] at hv;obtain ⟨rfl,rfl,rfl⟩:=hv;have bi:¬pos<t.size:=by
   intro h
   have:yK pos s.length=true:=by simp [yK];omega
   grind
  refine ⟨.value (.tuple #[.bool false]),.tuple #[.bool false],w,m,S,?_,.inl rfl,hh,by simp [aj,au],dM.refl,cB.refl⟩;simp [execOp,ho,ex,Instr.next,ak,bi]
 | true=>
  rw [hc] at hv;simp only [ym] at hv;have bi:pos<t.size:=by
   simp_all
  cases hdc:decodeL s pos with | mk c wd=>
  rw [hdc] at hv;simp only [yc,yk] at hv;obtain ⟨rfl,rfl,rfl⟩:=hv;have hd:Utf8.decode t pos=(c,wd):=by rw [<-aki,g3,hdc]
  have oc:fM O m S {w with heap:=w.heap.setIfInBounds p.b (.stringIter t (pos+wd))} id (.si s (pos+wd)):=⟨p,t,hm,LK g2,g3,g4⟩;obtain ⟨e1,e2⟩:=HW hh hg hm g4 (D9 w p.b _) oc (fun r hr=>by rw [g2] at hr;cases hr);refine ⟨.value (.tuple #[.bool true,goInt pos,.int .i32 c]),_,_,m,S,?_,.inl rfl,e1,by simp [aj,au,goInt],dM.refl,e2⟩
  have aW:(setObj p.b (.stringIter t (pos+wd))).run O.P w= .ok () {w with heap:=w.heap.setIfInBounds p.b (.stringIter t (pos+wd))}:=by simp [setObj,Sem.run,g2]
  simp [execOp,ho,ex,Instr.next,ak,bi,hd,aW]
end
end
section
open Go
def HK {hp:Hp} {id i:Nat}:ak (dA hp id) i=if id=i then none else ak hp i:=by
 induction hp with
 | nil=>simp [dA,ak]
 | cons x r ih=>
  obtain ⟨j,q⟩:=x;simp only [dA];by_cases hj:j=id
  ·subst hj;simp only [xq,ym,ih,ak];by_cases hi:j=i
   ·grind
   ·have:yu j i=false:=by
     cases hq:yu j i with
     | false=>rfl
     | true=>exact absurd (yp hq) hi
    grind
  ·have hb:yu j id=false:=by
    cases hq:yu j id with
    | false=>rfl
    | true=>exact absurd (yp hq) hj
   simp only [hb,yA];rw [show ak ((j,q)::dA r id) i=bif yu j i then some q else ak (dA r id) i from rfl,ih];by_cases hi:j=i
   ·subst hi
    have:¬id=j:=fun h=>hj h.symm
    simp [xq,this,ak]
   ·have se:yu j i=false:=by
     cases hq:yu j i with
     | false=>rfl
     | true=>exact absurd (yp hq) hi
    simp [se,ak]
section
variable {O:bA} {H:Hint} {m:Mp} {S:Nat->Prop} {w:yi} {tm:Env} {a:Act} {hp:Hp} {ct:Nat}
def Src (P:y6) (w:yi) (size n:Nat) (news:List yf) (x:yf):Prop:=
 (∀w',(Builtin.lenOf x).run P w'= .ok n w')/\news.length=n*size/\
 ∀w',w'.heap=w.heap->∀k,k<=n->(Builtin.firstCells size k x).run P w'= .ok (news.take (k*size)).toArray w'
def HL {P:y6} {size n c:Nat} {b:Addr} {news:List yf} (hl:news.length=n*size) (hc:∀j u,news[j]? =some u->w.cell? (b.add j)=some u):
  Src P w size n news (.slice (some b) n c):=by
 refine ⟨fun w'=>by simp [Builtin.lenOf],hl,fun w' hw k hk=>?_⟩;have hle:k*size<=news.length:=by rw [hl];exact yW _ hk
 refine run_firstCells_some (P:=P) w' size k b n c (news.take (k*size)) (by rw [yT];omega) (fun j v hv=>?_);rw [List.getElem?_take] at hv
 split at hv
 ·have:=hc j v hv
  simpa [World.cell?,hw] using this
 ·cases hv
def abe {P:y6} {size:Nat}:Src P w size 0 [] (.slice none 0 0):=
 ⟨fun w'=>by simp [Builtin.lenOf],by simp,fun w' _ k hk=>by simp [Builtin.firstCells]⟩
def ajf (s:ByteArray) (k:Nat):(s.extract 0 k).data.map (fun b=>Value.int .u8 b.toNat)=((s.data.toList.map fun b=>Value.int .u8 (b.toNat:Int)).take k).toArray:=by
 have:(s.extract 0 k).data=s.data.extract 0 k:=by simp
 grind
def aoJ {P:y6} {s:ByteArray}:Src P w 1 s.size (s.data.toList.map fun b=>Value.int .u8 (b.toNat:Int)) (.string s):=by
 refine ⟨fun w'=>by simp [Builtin.lenOf],by simp,fun w' _ k hk=>?_⟩;simp only [Builtin.firstCells,Sem.run_pure,Nat.mul_one];rw [ajf]
def X5 {ai:Nat->Nat}:∀l:List UInt8,au ai m S w (MD (l.map yY)) (l.map fun b=>Value.int .u8 (b.toNat:Int))
 | []=>by simp [MD,au]
 | b::r=>by
  exact ⟨_,_,rfl,by simp [aj],X5 r⟩
def Yy {size n:Nat} {vx:AV} {x:yf} {cs:List AV} (hh:bf O m S w hp ct) (hx:aj O.ai m S w vx x) (h:qd hp size vx=some (n,cs)):
  ∃us,au O.ai m S w cs us/\Src O.P w size n us x:=by
 cases vx<;>simp only [qd,reduceCtorEq] at h
 case ab=>
  simp only [yc,yk] at h;obtain ⟨rfl,rfl⟩:=h;simp only [aj] at hx;subst hx;exact ⟨[],by simp [au],abe⟩
 case aE ex n' dN=>
  cases hc:yu dN.length (n'*size) with
  | false=>rw [hc] at h;cases h
  | true=>
   rw [hc] at h;simp only [ym,yc,yk] at h;obtain ⟨rfl,rfl⟩:=h;have hl:=yp hc;simp only [aj] at hx;rcases hx with ⟨b,o,c,rfl,h1,h2,h3,h4,h5⟩ | ⟨ad,rfl,rfl,rfl⟩
   ·obtain ⟨us,g1,g2,g3⟩:=sM _ b o h5;exact ⟨us,g1,HL (by omega) (fun j u hj=>by rw [oL];exact g3 j u hj)⟩
   ·exact ⟨[],by simp [au],HL (by simp) (fun j u hj=>by simp at hj)⟩
 case an id o n'=>
  cases hg:ak hp id with
  | none=>simp [hg] at h
  | some ob=>
   cases ob<;>simp only [hg,reduceCtorEq] at h
   rename_i rw pu ex z dN
   cases hc:yG (o+n'*size) dN.length with
   | false=>rw [hc] at h;cases h
   | true=>
    rw [hc] at h;simp only [ym,yc,yk] at h;obtain ⟨rfl,rfl⟩:=h;have hl:=yy hc;simp only [aj] at hx;obtain ⟨p,c,hm,rfl,h1,h2⟩:=hx;have hr:=RE (o:=0) (n:=0) hh hg hm;have fe:=Ci (n'*size) _ _ _ (qZ o _ _ _ hr);obtain ⟨us,g1,g2,g3⟩:=sM _ p.b (p.o+o) fe;refine ⟨us,g1,HL ?_ (fun j u hj=>by rw [oL];exact g3 j u hj)⟩
    rw [g2,yT,xS];omega
def akj {size n:Nat} {vx:AV} {x:yf} {cs:List AV} (hh:bf O m S w hp ct) (hx:aj O.ai m S w vx x) (h:za hp size vx=some (n,cs)):
  ∃us,au O.ai m S w cs us/\Src O.P w size n us x:=by
 cases vx<;>try exact Yy hh hx h
 simp only [za] at h
 cases hc:yu size 1 with
 | false=>rw [hc] at h;cases h
 | true=>
  rw [hc] at h;obtain ⟨rfl,rfl⟩:=h
  have:=yp hc
  subst this;obtain ⟨t,rfl,rfl⟩:=hx;refine ⟨_,X5 _,?_⟩
  have:(List.map yY t.data.toList).length=t.size:=by simp
  rw [this];exact aoJ
def aiv {P:y6} {t u ty e:yx} {i:ybr} (ht:P.underlying t=some (.slice e)) (hu:(∃e',P.underlying u=some (.slice e'))\/P.underlying u=some .string) (hi:P.info? e=some i)
  {g o iL qB:Nat} {cur:Array yf} {te:yx} (hg:w.heap[g]? =some (.cells cur te (0,0))) {x:yf} {n:Nat} {news:List yf} (hs:Src P w i.size n news x) (h1:∀u∈news,u.oneCell'=true)
  (EX:iL+n<=qB) (TE:o+iL*i.size+news.length<=cur.size):
  (Builtin.append_ #[t,u] ty #[.slice (some ⟨g,o,none⟩) iL qB,x]).run P w=
   .ok (.slice (some ⟨g,o,none⟩) (iL+n) qB) (w.setRow g (cur.toList.take (o+iL*i.size)++news++cur.toList.drop (o+iL*i.size+news.length)).toArray):=by
 obtain ⟨nj,Ah,VA⟩:=hs;have hf:=VA w rfl n (yC _);rw [yM (by omega)] at hf;have aX:=run_storeCells_at P g (o+iL*i.size) te news 0 cur w hg (by omega) h1;rcases hu with ⟨e',hd⟩ | hd<;>
  simp [Builtin.append_,run_underlying ht,run_underlying hd,vU,typeInfo,hi,nj,EX,hf,oL,aX]
def Qy {P:y6} {t u ty e:yx} {i:ybr} {z:yf} (ht:P.underlying t=some (.slice e)) (hu:(∃e',P.underlying u=some (.slice e'))\/P.underlying u=some .string) (hi:P.info? e=some i) (hz:i.zero=some z)
  {s:yf} {base:Option Addr} {iL qB:Nat} (es:s= .slice base iL qB) {nh:List yf} (ho:Src P w i.size iL nh s) {x:yf} {n:Nat} {news:List yf} (hs:Src P w i.size n news x)
  (hg:qB<iL+n) (Pm:iL+n<=1099511627776) (Vz:(iL+n)*i.bytes<=1099511627776):
  (Builtin.append_ #[t,u] ty #[s,x]).run P w=
   .ok (.slice (some ⟨w.heap.size,0,none⟩) (iL+n) (grownCap w (iL+n) qB e))
    (w.drew.alloc (.cells ((nh++news).toArray++Builtin.zeroCells z.cells (grownCap w (iL+n) qB e-(iL+n))) e)):=by
 obtain ⟨nj,Ah,VA⟩:=hs;obtain ⟨ho1,VB,ho3⟩:=ho;have hf:=VA w.drew rfl n (yC _);rw [yM (by omega)] at hf;have hfo:=ho3 w.drew rfl iL (yC _);have hn:¬(iL+n<=qB):=by omega
 have auX:¬(9223372036854775807<((iL:Int)+(n:Int))):=by omega
 have TE:=growslice_fits (need:=iL+n) (old:=qB) (bytes:=i.bytes) hg (by omega);have auY:¬(281474976710656<Builtin.nextslicecap (iL+n) qB*i.bytes):=by omega
 subst es;rcases hu with ⟨e',hd⟩ | hd
 all_goals
  simp [Builtin.append_,run_underlying ht,run_underlying hd,vU,typeInfo,zeroValue,hi,hz,nj,hn,auX,auY,Question.forced,hf,hfo,newRow,askRoom,grownCap]
  grind
def Q7 {e:yx} {z:yf} {sz need cap:Nat} {cs:List AV} {us:List yf} (hh:bf O m S w hp ct) (hr:au O.ai m S w cs us) (hl:us.length=need*sz) (hz:z.cells.size=sz)
  (Nk:Bool) (hpp:Nk=true->aH cs=true) (hc:need<=cap):
  let w':=w.drew.alloc (.cells (us.toArray++Builtin.zeroCells z.cells (cap-need)) e)
  let p:Pl:=⟨w.heap.size,0,cap*sz,sz⟩
  ∀m',dM m m'->m' ct=some p->fM O m' S w' ct (.cells true Nk false sz cs):=by
 intro w' p m' hm hi;have aX:gm S w w':=fun b hb=>by
  have:=hh.slt b hb
  exact RowKit.Below.heap_alloc w.drew _ b (by simpa using this)
 have lS:w'.heap[w.heap.size]? =some (.cells (us.toArray++Builtin.zeroCells z.cells (cap-need)) e (0,0)):=heap_alloc_new w.drew _;have iR:=iY _ _ hr;refine ⟨p,_,e,hi,lS,rfl,?_,?_,by simp,?_,hpp,?_,by simp⟩
 ·show cs.length<=cap*sz
  rw [<-iR,hl];exact yW _ hc
 ·show 0+cap*sz<=_
  rw [Array.size_append,vH,size_zeroCells,hz,hl,<-wj];rw [yd];exact yW _ (by omega)
 ·refine Q4 lS cs us 0 (iq hm (fun _ h=>h) aX _ _ hr) (fun j u hj=>?_);rw [yd,Array.getElem?_append_left (by rw [vH];exact (xR.1 hj).1),vV]
  exact hj
 ·intro _ hS
  have:=hh.slt _ hS
  simp [p] at this
def aih (hh:bf O m S w hp ct) (g:yaA):gm S w (w.drew.alloc g):=fun b hb=>by
 have:=hh.slt b hb
 exact RowKit.Below.heap_alloc w.drew _ b (by simpa using this)
def Q8 (hh:bf O m S w hp ct) {hp0:Hp} {g:yaA} {p:Pl} {o:Obj} (Jn:∀i q,ak hp0 i=some q->ak hp i=some q) (hb:p.b=w.heap.size)
  (ho:∀m',dM m m'->m' ct=some p->fM O m' S (w.drew.alloc g) ct o):
  bf O (fO m ct p) S (w.drew.alloc g) ((ct,o)::hp0) (ct+1)/\cB m S w hp (fO m ct p) S (w.drew.alloc g) ((ct,o)::hp0) ct:=by
 have hn:m ct=none:=by
  cases h:m ct with
  | none=>rfl
  | some q=>have:=hh.lt _ _ h;omega
 have hle:=kN hn (p:=p);have aX:=aih hh g;have hold:∀b,b<w.heap.size->(w.drew.alloc g).heap[b]? =w.heap[b]? :=fun b hb=>RowKit.Below.heap_alloc w.drew _ b (by simpa using hb)
 have fa:(w.drew.alloc g).heap.size=w.heap.size+1:=by simp
 have ik:∀i q,ak ((ct,o)::hp0) i=some q->i≠ct->ak hp i=some q:=fun i q h hi=>by
  rw [ir,yB (fun e=>hi e.symm)] at h;exact Jn i q h
 refine ⟨⟨?_,?_,?_,?_,?_,?_,?_,?_,fun i q hq=>(by
  by_cases hc:i=ct
  ·omega
  ·have:=hh.bi _ _ (ik i q hq hc);omega)⟩,⟨rfl,rfl,rfl,by omega,?_,fun _ h=>h,fun b hb=>aX b hb,fun b hb=> .inl hb,?_,fun i q _ h=>hle i q h,fun b r hb=>⟨r,(hold b (Array.getElem?_eq_some_iff.1 hb).1).trans hb⟩⟩⟩
 ·intro i q pi hi bL;by_cases hc:i=ct
  ·subst hc;rw [ir] at hi;simp only [y5,yc] at hi;subst hi;exact ho _ hle eJ
  ·rw [eI hc] at bL;exact rb hle (fun _ h=>h) aX (fun q' cd=>hold _ (hh.blt i q' cd)) (fun _ _ h=>h) (hh.obj i q pi (ik i q hi hc) bL)
 ·intro i q bL;by_cases hc:i=ct
  ·omega
  ·rw [eI hc] at bL;have:=hh.lt i q bL;omega
 ·intro i j oi oj pi pj hi hj bL gE e;by_cases ci:i=ct
  ·by_cases cj:j=ct
   ·rw [ci,cj]
   ·subst ci;rw [eJ] at bL;rw [eI cj] at gE;injection bL with bL
    subst bL
    have:=hh.blt j pj gE
    omega
  ·rw [eI ci] at bL;by_cases cj:j=ct
   ·subst cj;rw [eJ] at gE;injection gE with gE
    subst gE
    have:=hh.blt i pi bL
    omega
   ·rw [eI cj] at gE;exact hh.inj i j oi oj pi pj (ik i oi hi ci) (ik j oj hj cj) bL gE e
 ·intro b hb;have:=hh.slt b hb;omega
 ·intro i q bL;by_cases hc:i=ct
  ·subst hc;rw [eJ] at bL;injection bL with bL
   subst bL;omega
  ·rw [eI hc] at bL;have:=hh.blt i q bL;omega
 ·intro i q bL;have h0:=hh.gA;by_cases hc:i=ct
  ·subst hc;rw [eJ] at bL;injection bL with bL
   subst bL;omega
  ·rw [eI hc] at bL;exact hh.low i q bL
 ·intro b hb;have h0:=hh.gA;exact (hold b (by omega)).trans (hh.lR b hb)
 ·have h0:=hh.gA;omega
 ·intro b hb _;exact hold b hb
 ·rintro b ⟨i,q,pi,h1,h2,h3⟩;by_cases hc:i=ct
  ·subst hc;rw [eJ] at h2;injection h2 with h2
   subst h2;exact .inr (by omega)
  ·rw [eI hc] at h2;exact .inl ⟨i,q,pi,ik i q h1 hc,h2,h3⟩
def akk (hh:bf O m S w hp ct) {id:Nat} {o o':Obj} {p p':Pl} {w':yi} (hg:ak hp id=some o) (hm:m id=some p) (hn:¬S p.b) (hw:One w w' p.b) (hk:∀r:ud,w.heap[p.b]? =some (.loop r)->∃r':ud,w'.heap[p.b]? =some (.loop r')) (hb:p'.b=p.b)
  (ho:∀m',dM m m'->m' ct=some p'->fM O m' S w' ct o'):
  bf O (fO m ct p') S w' ((ct,o')::dA hp id) (ct+1)/\cB m S w hp (fO m ct p') S w' ((ct,o')::dA hp id) ct:=by
 have kF:m ct=none:=by
  cases h:m ct with
  | none=>rfl
  | some q=>have:=hh.lt _ _ h;omega
 have hle:=kN kF (p:=p');have aX:gm S w w':=fun b hb=>hw.other b (fun e=>hn (e▸hb))
 have ik:∀i q,ak ((ct,o')::dA hp id) i=some q->i≠ct->ak hp i=some q/\i≠id:=fun i q h hi=>by
  rw [ir,yB (fun e=>hi e.symm),HK] at h;by_cases hc:id=i
  ·simp [hc] at h
  ·simp only [hc,yO] at h;exact ⟨h,fun e=>hc e.symm⟩
 have TF:∀i q pi,ak hp i=some q->i≠id->m i=some pi->pi.b≠p.b:=fun i q pi h hi bL e=>hi (hh.inj i id q o pi p h hg bL hm e)
 refine ⟨⟨?_,?_,?_,?_,?_,?_,?_,?_,fun i q hq=>(by
  by_cases hc:i=ct
  ·omega
  ·have:=hh.bi _ _ (ik i q hq hc).1;omega)⟩,⟨hw.os,hw.tape,hw.output,by rw [hw.size];exact yC _,?_,fun _ h=>h,fun b hb=>aX b hb,fun b hb=> .inl hb,?_,fun i q _ h=>hle i q h,fun b r hb=>(by
  by_cases hc:b=p.b
  ·subst hc;exact hk r hb
  ·exact ⟨r,(hw.other b hc).trans hb⟩)⟩⟩
 ·intro i q pi hi bL;by_cases hc:i=ct
  ·subst hc;rw [ir] at hi;simp only [y5,yc] at hi;subst hi;exact ho _ hle eJ
  ·rw [eI hc] at bL;obtain ⟨h1,h2⟩:=ik i q hi hc;exact rb hle (fun _ h=>h) aX (fun q' cd=>hw.other _ (TF i q q' h1 h2 cd)) (fun _ _ h=>h) (hh.obj i q pi h1 bL)
 ·intro i q bL;by_cases hc:i=ct
  ·omega
  ·rw [eI hc] at bL;have:=hh.lt i q bL;omega
 ·intro i j oi oj pi pj hi hj bL gE e;by_cases ci:i=ct
  ·by_cases cj:j=ct
   ·rw [ci,cj]
   ·subst ci;rw [eJ] at bL;rw [eI cj] at gE;injection bL with bL
    subst bL;obtain ⟨h1,h2⟩:=ik j oj hj cj;exact (TF j oj pj h1 h2 gE (by rw [<-e,hb])).elim
  ·rw [eI ci] at bL;obtain ⟨h1,h2⟩:=ik i oi hi ci;by_cases cj:j=ct
   ·subst cj;rw [eJ] at gE;injection gE with gE
    subst gE;exact (TF i oi pi h1 h2 bL (by rw [e,hb])).elim
   ·rw [eI cj] at gE;exact hh.inj i j oi oj pi pj h1 (ik j oj hj cj).1 bL gE e
 ·intro b hb;rw [hw.size];exact hh.slt b hb
 ·intro i q bL;rw [hw.size];by_cases hc:i=ct
  ·subst hc;rw [eJ] at bL;injection bL with bL
   subst bL;rw [hb];exact hh.blt id p hm
  ·rw [eI hc] at bL;exact hh.blt i q bL
 ·intro i q bL;by_cases hc:i=ct
  ·subst hc;rw [eJ] at bL;injection bL with bL
   subst bL;rw [hb];exact hh.low id p hm
  ·rw [eI hc] at bL;exact hh.low i q bL
 ·intro b hb
  rw [hw.other b (fun e=>by have:=hh.low id p hm;omega)];exact hh.lR b hb
 ·rw [hw.size];exact hh.gA
 ·intro b _ cY;exact hw.other b (fun e=>cY (e▸Iv hg hm))
 ·rintro b ⟨i,q,pi,h1,h2,h3⟩;by_cases hc:i=ct
  ·subst hc;rw [eJ] at h2;injection h2 with h2
   subst h2;exact .inl ⟨id,o,p,hg,hm,by rw [<-h3,hb]⟩
  ·rw [eI hc] at h2;exact .inl ⟨i,q,pi,(ik i q h1 hc).1,h2,h3⟩
def aoK {P:y6} {e:yx} {s by':Nat} {z:AV} (hs:cT P e=some s) (hb:BM P e=some by') (hz:mY P e=some z):
  ∃ti zv,P.info? e=some ti/\ti.size=s/\ti.bytes=by'/\ti.zero=some zv/\z=eR zv:=by
 unfold cT at hs;unfold BM at hb;unfold mY at hz
 cases hi:P.info? e with
 | none=>simp [hi] at hs
 | some ti=>
  simp only [hi,yc] at hs hb hz
  cases fQ:ti.zero with
  | none=>simp [fQ] at hz
  | some zv=>
   grind
def HX {o:yZ} {v:AV} {u:yf} {w':yi} {m':Mp} {S':Nat->Prop} {ao:Hp} {bg:Nat} (h1:(execOp a.eval o).run O.P w= .ok (.value u) w') (h2:bf O m' S' w' ao bg) (h3:aj O.ai m' S' w' v u)
  (h4:dM m m') (h5:cB m S w hp m' S' w' ao ct):zq O m S w a hp ct o v ao bg:=⟨_,u,w',m',S',h1,.inl rfl,h2,h3,h4,h5⟩
def amj {o:yZ} {b':yx} {t u e:yx} {sz by':Nat} {z:AV} {x y:xA} {v:AV} {ao:Hp} {bg:Nat} (hH:fT O H) (ht:cw O m S w tm a.tmps) (hh:bf O m S w hp ct)
  (fN:(execOp a.eval o).run O.P w=((do pure (.value (<-Builtin.append_ #[t,u] b' #[a.eval x,a.eval y])):Sem yaf)).run O.P w)
  (BR:O.P.underlying t=some (.slice e)) (hu:(∃e',O.P.underlying u=some (.slice e'))\/O.P.underlying u=some .string) (hs:cT O.P e=some sz) (hb:BM O.P e=some by') (hz:mY O.P e=some z) (Ad:(cellsOf z).length=sz)
  (hv:di tm hp ct (.dL sz by' (aT H x) (aT H y))=some (v,ao,bg)):zq O m S w a hp ct o v ao bg:=by
 simp only [di] at hv;obtain ⟨ti,zv,Af,rfl,rfl,VD,rfl⟩:=aoK hs hb hz;have aQ:∀u' w',(Builtin.append_ #[t,u] b' #[a.eval x,a.eval y]).run O.P w= .ok u' w'->(execOp a.eval o).run O.P w= .ok (.value u') w':=fun u' w' h=>by
  rw [fN,Sem.run_bind,h];rfl
 have rC:m ct=none:=by
  cases h:m ct with
  | none=>rfl
  | some q=>have:=hh.lt _ _ h;omega
 have Ku:zv.cells.size=ti.size:=by
  have:=iY _ _ (D2 (ai:=O.ai) (m:=m) (S:=S) (w:=w) zv)
  rw [<-Ad,<-this];simp
 cases CZ:za hp ti.size (aA tm (aT H y)) with
 | none=>simp [CZ] at hv
 | some q=>
  obtain ⟨n,new⟩:=q;simp only [CZ] at hv;obtain ⟨news,gV,eH⟩:=akj hh (cI hH ht y) CZ;have Pn:=iY _ _ gV;have rx:=cI hH ht x
  cases hx:aA tm (aT H x) with
  | ab=>
   rw [hx] at hv rx;simp only at hv;simp only [aj] at rx
   cases h0:yu n 0 with
   | true=>
    rw [h0] at hv;simp only [ym,yc,yk] at hv;obtain ⟨rfl,rfl,rfl⟩:=hv;have lB:=yp h0;subst lB;have S8:news=[]:=yJ (by rw [eH.2.1];simp)
    subst S8;have hf:=eH.2.2 w rfl 0 (yC _);have kE:=eH.1 w;refine ⟨.value (.slice none 0 0),.slice none 0 0,w,m,S,?_,.inl rfl,hh,by simp [aj],dM.refl,cB.refl⟩;rw [fN,rx];rcases hu with ⟨e',hu⟩ | hu<;>
     simp [Builtin.append_,run_underlying BR,run_underlying hu,vU,typeInfo,Af,kE,hf]
   | false=>
    rw [h0] at hv;simp only [yA] at hv
    cases hc:(yG n room&&(yG (n*ti.bytes) room&&yK 0 ti.size)) with
    | false=>rw [hc] at hv;cases hv
    | true=>
     rw [hc] at hv;simp only [ym,yc,yk] at hv;obtain ⟨rfl,rfl,rfl⟩:=hv;simp only [yg] at hc;have c1:=yy hc.1;have c2:=yy hc.2.1;simp only [room] at c1 c2;have lB:0<n:=by
      rcases xo n with h | h
      ·subst h;simp at h0
      ·exact h
     have hr:=Qy (P:=O.P) (ty:=b') (w:=w) BR hu Af VD (s:= .slice none 0 0) rfl (abe (P:=O.P) (size:=ti.size)) eH (by omega) (by omega) (by simpa using c2);simp only [yd,List.nil_append] at hr;have lW:=grownCap_ge w n 0 e;have lS:=Q7 (e:=e) (z:=zv) (cap:=grownCap w n 0 e) hh gV (need:=n) (sz:=ti.size) eH.2.1 Ku (aH new) (fun h=>h) lW;obtain ⟨k1,k2⟩:=Q8 hh (hp0:=hp) (p:=⟨w.heap.size,0,grownCap w n 0 e*ti.size,ti.size⟩) (fun _ _ h=>h) rfl lS;exact HX (aQ _ _ (by rw [rx];exact hr)) k1 (by simp only [aj];exact ⟨_,_,eJ,rfl,lW,by simp⟩) (kN rC) k2
  | aE ex k cs=>
   rw [hx] at hv rx
   cases ex with
   | false=>simp at hv
   | true=>
    simp only at hv;have rx0:=rx;simp only [aj] at rx;have rx1:∃ad nh,a.eval x= .slice (some ad) k k/\au O.ai m S w cs nh/\nh.length=cs.length/\(∀(j:Nat) (u:yf),nh[j]? =some u->w.cell? (ad.add j)=some u)/\aH cs=true:=by
     rcases rx with ⟨bb,oo,c,ex,h1,h2,h3,h4,h5⟩ | ⟨ad,ex,rfl,rfl⟩
     ·have qM:c=k:=h2 (by trivial);subst qM;obtain ⟨nh,g1,g2,g3⟩:=sM cs bb oo h5;exact ⟨_,nh,ex,g1,g2,fun j u hj=>by rw [oL];exact g3 j u hj,h4⟩
     ·exact ⟨ad,[],ex,by simp [au],rfl,fun j u hj=>by simp at hj,rfl⟩
    obtain ⟨ad,nh,ex,g1,g2,g3,h4⟩:=rx1
    cases h0:yu n 0 with
    | true=>
     rw [h0] at hv;simp only [ym,yc,yk] at hv;obtain ⟨rfl,rfl,rfl⟩:=hv;have lB:=yp h0;subst lB;have S8:news=[]:=yJ (by rw [eH.2.1];simp)
     subst S8;have hf:=eH.2.2 w rfl 0 (yC _);have kE:=eH.1 w;refine ⟨.value (a.eval x),a.eval x,w,m,S,?_,.inl rfl,hh,rx0,dM.refl,cB.refl⟩;rw [fN,ex];rcases hu with ⟨e',hu⟩ | hu<;>
      simp [Builtin.append_,run_underlying BR,run_underlying hu,vU,typeInfo,Af,kE,hf,storeCells]
    | false=>
     rw [h0] at hv;simp only [yA] at hv
     cases hc:(yG (k+n) room&&(yG ((k+n)*ti.bytes) room&&(yu cs.length (k*ti.size)&&yK 0 ti.size))) with
     | false=>rw [hc] at hv;cases hv
     | true=>
      rw [hc] at hv;simp only [ym,yc,yk] at hv;obtain ⟨rfl,rfl,rfl⟩:=hv;simp only [yg] at hc;have c1:=yy hc.1;have c2:=yy hc.2.1;have c3:=yp hc.2.2.1;simp only [room] at c1 c2;have lB:0<n:=by
       rcases xo n with h | h
       ·subst h;simp at h0
       ·exact h
      have VF:Src O.P w ti.size k nh (.slice (some ad) k k):=HL (by omega) g3;have hr:=Qy (P:=O.P) (ty:=b') (w:=w) BR hu Af VD rfl VF eH (by omega) c1 c2;have lW:=grownCap_ge w (k+n) k e;have lS:=Q7 (e:=e) (z:=zv) (cap:=grownCap w (k+n) k e) hh (mf g1 gV) (need:=k+n) (sz:=ti.size) (by rw [yQ,g2,c3,eH.2.1,wj]) Ku (aH cs&&aH new)
       (fun h=>by simp only [yg] at h;exact D3 h.1 h.2) lW
      obtain ⟨k1,k2⟩:=Q8 hh (hp0:=hp) (p:=⟨w.heap.size,0,grownCap w (k+n) k e*ti.size,ti.size⟩) (fun _ _ h=>h) rfl lS;exact HX (aQ _ _ (by rw [ex];exact hr)) k1 (by simp only [aj];exact ⟨_,_,eJ,rfl,lW,by simp⟩) (kN rC) k2
  | an id o0 k=>
   rw [hx] at hv rx;simp only at hv;simp only [aj] at rx;obtain ⟨p,c,hm,ex,h1,h2⟩:=rx
   split at hv
   case h_2=>cases hv
   rename_i pu Pk zz cs hg
   cases hc:(yu zz ti.size&&(yG (k+n) room&&(yG ((k+n)*ti.bytes) room&&(yG (o0+k*ti.size) cs.length&&(yK 0 ti.size&&bK new))))) with
   | false=>rw [hc] at hv;cases hv
   | true=>
    rw [hc] at hv;simp only [ym,yc,yk] at hv;obtain ⟨rfl,rfl,rfl⟩:=hv;simp only [yg] at hc;have c0:=yp hc.1;have c1:=yy hc.2.1;have c2:=yy hc.2.2.1;have c3:=yy hc.2.2.2.1;have c4:=hc.2.2.2.2.2;simp only [room] at c1 c2;obtain ⟨p',arr,t',g1,g2,g3,g4,g5,g6,g7,g8,g9,g10⟩:=hh.obj id _ _ hg hm;rw [hm] at g1;injection g1 with g1
    subst g1;subst c0;rw [g3] at h2;have Po:bW O.ai m S w (slice o0 (k*ti.size) cs) p.b (p.o+o0):=Ci _ _ _ _ (qZ _ _ _ _ g7);obtain ⟨nh,f1,f2,f3⟩:=sM _ _ _ Po;have afv:(slice o0 (k*ti.size) cs).length=k*ti.size:=by simp only [slice,yT,xS];omega
    have py:(pu&&aH new)=true->aH (slice o0 (k*ti.size) cs++new)=true:=fun h=>by
     simp only [yg] at h;exact D3 (Cg _ (AL _ _ (g8 h.1))) h.2
    by_cases EX:k+n<=c
    ·have fI:=L2 gV c4;have TE:p.o+o0+k*ti.size+news.length<=arr.size:=by
      rw [eH.2.1]
      have:(k+n)*ti.size<=c*ti.size:=yW _ EX
      rw [wj] at this;omega
     have hr:=aiv (P:=O.P) (ty:=b') (w:=w) BR hu Af g2 eH fI EX TE;have ho:∀m',dM m m'->m' ct=some ⟨p.b,p.o+o0,c*ti.size,ti.size⟩->
       fM O m' S (w.setRow p.b (arr.toList.take (p.o+o0+k*ti.size)++news++arr.toList.drop (p.o+o0+k*ti.size+news.length)).toArray) ct
        (.cells true (pu&&aH new) false ti.size (slice o0 (k*ti.size) cs++new)):=by
      intro m' hle hi;have aX:gm S w (w.setRow p.b (arr.toList.take (p.o+o0+k*ti.size)++news++arr.toList.drop (p.o+o0+k*ti.size+news.length)).toArray):=fun b hb=>setRow_other w p.b b _ (fun e=>g9 rfl (e▸hb))
      refine ⟨_,_,t',hi,setRow_heap w p.b arr _ t' _ g2,rfl,?_,?_,by simp,?_,py,fun _=>g9 rfl,by simp⟩
      ·show (slice o0 (k*ti.size) cs++new).length<=c*ti.size
       rw [yQ,afv,<-Pn,eH.2.1,<-wj];exact yW _ EX
      ·show p.o+o0+c*ti.size<=_
       rw [vH,yQ,yQ,yT,xS,vt];omega
      ·refine Eh _ (nh++news) _ (mf (iq hle (fun _ h=>h) aX _ _ f1) (iq hle (fun _ h=>h) aX _ _ gV)) (fun j u hj=>?_);show World.cell? _ ⟨p.b,p.o+o0+j,none⟩=some u
       simp only [World.cell?,setRow_heap w p.b arr _ t' _ g2,to,yD,yO];rw [vV];have e1:(arr.toList.take (p.o+o0+k*ti.size)).length=p.o+o0+k*ti.size:=by rw [yT,vt];omega
       by_cases Vy:j<k*ti.size
       ·rw [xO (by omega)] at hj;rw [xp,xO (by omega),vK (by omega)]
        have:=f3 j u hj
        simpa [World.cell?,g2] using this
       ·rw [xD (by omega)] at hj;have hjl:=(xR.1 hj).1;rw [xp,xD (by omega),e1,xO (by omega),show p.o+o0+j-(p.o+o0+k*ti.size)=j-nh.length by omega];exact hj
     obtain ⟨k1,k2⟩:=akk (p':=⟨p.b,p.o+o0,c*ti.size,ti.size⟩) hh hg hm (g9 rfl) (QO w p.b _) (fun r hr=>by rw [g2] at hr;cases hr) rfl ho;exact HX (aQ _ _ (by rw [ex];exact hr)) k1 (by simp only [aj];exact ⟨_,c,eJ,rfl,EX,by simp⟩) (kN rC) k2
    ·have VF:Src O.P w ti.size k nh (.slice (some ⟨p.b,p.o+o0,none⟩) k c):=HL (by omega) (fun j u hj=>by rw [oL];exact f3 j u hj)
     have hr:=Qy (P:=O.P) (ty:=b') (w:=w) BR hu Af VD rfl VF eH (by omega) c1 c2;have lW:=grownCap_ge w (k+n) c e;have lS:=Q7 (e:=e) (z:=zv) (cap:=grownCap w (k+n) c e) hh (mf f1 gV) (need:=k+n) (sz:=ti.size) (by rw [yQ,f2,afv,eH.2.1,wj]) Ku (pu&&aH new) py lW;obtain ⟨k1,k2⟩:=Q8 hh (hp0:=dA hp id) (p:=⟨w.heap.size,0,grownCap w (k+n) c e*ti.size,ti.size⟩) (fun i q h=>by
      rw [HK] at h;by_cases hi:id=i
      ·simp [hi] at h
      ·simpa only [hi,yO] using h) rfl lS
     exact HX (aQ _ _ (by rw [ex];exact hr)) k1 (by simp only [aj];exact ⟨_,_,eJ,rfl,lW,by simp⟩) (kN rC) k2
  | _=>rw [hx] at hv;simp at hv
end
end
section
open Go
section
variable {O:bA} {H:Hint} {m:Mp} {S:Nat->Prop} {w:yi} {tm:Env} {a:Act} {hp:Hp} {ct:Nat}
def aiI {n:Nat} {cs:List AV} (h:aH cs=true):aH (cs.take n)=true:=Cg n h
def XN:∀(n:Nat) {cs:List AV},bK cs=true->bK (cs.take n)=true
 | 0,_,_=>by simp [bK]
 | n+1,[],_=>by simp [bK]
 | n+1,c::cs,h=>by
  simp only [List.take_succ_cons,bK,yg] at h ⊢;exact ⟨h.1,XN n h.2⟩
def amk {o:yZ} {b':yx} {t u e:yx} {sz:Nat} {x y:xA} {v:AV} {ao:Hp} {bg:Nat} (hH:fT O H) (ht:cw O m S w tm a.tmps) (hh:bf O m S w hp ct)
  (fN:(execOp a.eval o).run O.P w=((do pure (.value (<-Builtin.copy_ #[t,u] b' #[a.eval x,a.eval y])):Sem yaf)).run O.P w)
  (BR:O.P.underlying t=some (.slice e)) (hs:cT O.P e=some sz)
  (hv:di tm hp ct (.pv sz (aT H x) (aT H y))=some (v,ao,bg)):zq O m S w a hp ct o v ao bg:=by
 simp only [di] at hv
 cases CZ:qd hp sz (aA tm (aT H y)) with
 | none=>simp [CZ] at hv
 | some q=>
  obtain ⟨n,new⟩:=q;simp only [CZ] at hv;obtain ⟨news,gV,eH⟩:=Yy hh (cI hH ht y) CZ;have Pn:=iY _ _ gV;have rx:=cI hH ht x;cases hx:aA tm (aT H x)<;>rw [hx] at hv rx<;>simp only [reduceCtorEq] at hv
  rename_i id o0 k;simp only [aj] at rx;obtain ⟨p,c,hm,ex,h1,h2⟩:=rx
  split at hv
  case h_2=>cases hv
  rename_i pu Pk zz cs hg
  cases hc:(yu zz sz&&(yG (o0+k*sz) cs.length&&bK new)) with
  | false=>rw [hc] at hv;cases hv
  | true=>
   rw [hc] at hv;simp only [ym,yc,yk] at hv;obtain ⟨rfl,rfl,rfl⟩:=hv;simp only [yg] at hc;have c0:=yp hc.1;have c1:=yy hc.2.1;subst c0;obtain ⟨p',arr,t',g1,g2,g3,g4,g5,g6,g7,g8,g9,g10⟩:=hh.obj id _ _ hg hm;rw [hm] at g1;injection g1 with g1
   subst g1;have afw:min n k*zz<=k*zz:=yW _ (Nat.min_le_right _ _);have aAM:min n k*zz<=n*zz:=yW _ (yak _ _);have rt:=Ed (min n k*zz) gV;have pE:(news.take (min n k*zz)).length=min n k*zz:=by rw [yT,eH.2.1];omega
   have aAV:(new.take (min n k*zz)).length=min n k*zz:=by rw [yT,<-Pn,eH.2.1];omega
   have fI:=L2 rt (XN _ hc.2.2);have hf:=eH.2.2 w rfl (min n k) (yak _ _);have aX:=run_storeCells_at O.P p.b (p.o+o0) t' (news.take (min n k*zz)) 0 arr w g2 (by rw [pE];omega) fI;simp only [yX] at aX;have oc:fM O m S (w.setRow p.b (arr.toList.take (p.o+o0)++news.take (min n k*zz)++arr.toList.drop (p.o+o0+(news.take (min n k*zz)).length)).toArray) id
     (.cells true (pu&&aH new) Pk zz (over o0 (new.take (min n k*zz)) cs)):=by
    refine ⟨p,_,t',hm,setRow_heap w p.b arr _ t' _ g2,g3,by rw [Mj (by omega)];exact g4,?_,fun h=>by rw [Mj (by omega)];exact g6 h,?_,?_,fun _=>g9 rfl,by simp⟩
    ·rw [vH,yQ,yQ,yT,xS,vt,pE];omega
    ·exact aaf g2 g7 rt (by omega) (by omega) dM.refl (fun _ h=>h) (fun b hb=>setRow_other w p.b b _ (fun e=>g9 rfl (e▸hb))) (setRow_heap w p.b arr _ t' _ g2)
    ·intro h;simp only [yg] at h;exact Yw (g8 h.1) (aiI h.2)
   obtain ⟨e1,e2⟩:=HW hh hg hm (g9 rfl) (QO w p.b _) oc (fun r hr=>by rw [g2] at hr;cases hr)
   refine HX (u:=goInt ((min n k:Nat):Int)) (m':=m) (S':=S) ?_ e1 (by simp [aj,goInt]) dM.refl e2;rw [fN,ex];simp [Builtin.copy_,run_underlying BR,eH.1 w,nA hs,show Nat.min n k=min n k from rfl,hf,aX]
def aoL {o:yZ} {k:Nat} {v:AV} {ao:Hp} {bg:Nat} (hH:fT O H) (ht:cw O m S w tm a.tmps) (hh:bf O m S w hp ct)
  (hv:di tm hp ct (bt O.P H k o)=some (v,ao,bg)):zq O m S w a hp ct o v ao bg:=by
 have mF:∀{r:AV×Hp×Nat},di tm hp ct bad=some r->False:=fun h=>by simp [bad,di] at h
 cases ho:o.op with
 | call c=>
  obtain ⟨callee,args,ts⟩:=c;simp only [bt,ho] at hv
  split at hv
  ·cases Vx:H.mode k<;>simp [Vx,di] at hv
  ·rename_i _ b
   split at hv
   ·rename_i x y t u hX pC;obtain ⟨al⟩:=args;obtain ⟨tl⟩:=ts;simp only at hX pC;subst hX;subst pC;obtain ⟨cs,fN⟩:=Hu (O:=O) (w:=w) (a:=a) ho;have S9:(execOp a.eval o).run O.P w=((do pure (.value (<-Builtin.append_ #[t,u] o.type #[a.eval x,a.eval y])):Sem yaf)).run O.P w:=by
     rw [fN];simp [builtin]
    have key:∀{z:AV} {sz by':Nat} {e:yx},O.P.underlying t=some (.slice e)->((∃e',O.P.underlying u=some (.slice e'))\/O.P.underlying u=some .string)->cT O.P e=some sz->BM O.P e=some by'->mY O.P e=some z->
      di tm hp ct (bif yu (cellsOf z).length sz then .dL sz by' (aT H x) (aT H y) else bad)=some (v,ao,bg)->zq O m S w a hp ct o v ao bg:=by
     intro z sz by' e h1 h2 h3 h4 h5 h
     cases hb:yu (cellsOf z).length sz with
     | false=>rw [hb] at h;exact (mF h).elim
     | true=>
      rw [hb] at h;exact amj hH ht hh S9 h1 h2 h3 h4 h5 (yp hb) h
    split at hv
    ·rename_i e e' h1 h2
     split at hv
     ·rename_i sz by' z h3 h4 h5
      exact key h1 (.inl ⟨_,h2⟩) h3 h4 h5 hv
     ·exact (mF hv).elim
    ·rename_i e h1 h2
     split at hv
     ·rename_i sz by' z h3 h4 h5
      exact key h1 (.inr h2) h3 h4 h5 hv
     ·exact (mF hv).elim
    ·exact (mF hv).elim
   ·repeat' split at hv
    all_goals simp [di,bad] at hv
   ·rename_i x y t u hX pC;obtain ⟨al⟩:=args;obtain ⟨tl⟩:=ts;simp only at hX pC;subst hX;subst pC;obtain ⟨cs,fN⟩:=Hu (O:=O) (w:=w) (a:=a) ho;have S9:(execOp a.eval o).run O.P w=((do pure (.value (<-Builtin.copy_ #[t,u] o.type #[a.eval x,a.eval y])):Sem yaf)).run O.P w:=by
     rw [fN];simp [builtin]
    split at hv
    ·rename_i e h1
     split at hv
     ·rename_i sz h3;exact amk hH ht hh S9 h1 h3 hv
     ·exact (mF hv).elim
    ·exact (mF hv).elim
   ·simp [di] at hv
   ·simp [di] at hv
   ·exact (mF hv).elim
  ·exact (mF hv).elim
 | store t x y=>
  simp only [bt,ho] at hv
  split at hv
  ·rename_i s hs;exact aoH hH ht hh ho hs hv
  ·exact (mF hv).elim
 | mapUpdate t x k y=>
  simp only [bt,ho] at hv
  split at hv
  ·rename_i kt e hu
   split at hv
   ·rename_i kk r9;exact aag hH ht hh (.inl ho) hu r9 hv
   ·exact (mF hv).elim
  ·exact (mF hv).elim
 | insert t x k y=>
  simp only [bt,ho] at hv
  split at hv
  ·rename_i kt e hu
   split at hv
   ·rename_i kk r9;exact aag hH ht hh (.inr ho) hu r9 hv
   ·exact (mF hv).elim
  ·exact (mF hv).elim
 | next x b=>
  cases b with
  | false=>simp only [bt,ho] at hv;exact (mF hv).elim
  | true=>exact ami hH ht hh ho (by simpa only [bt,ho] using hv)
 | binOp op t x y ty=>
  cases op<;>simp only [bt,ho,rn,sT] at hv
  case eql=>
        repeat' split at hv
        all_goals first
         | (simp [di,bad] at hv;done)
         | (cases hb:(O.P.stoodInHeld t||O.P.eqGuardType O.P.depth t)<;>rw [hb] at hv<;>simp [di,bad] at hv)
  case neq=>
        repeat' split at hv
        all_goals first
         | (simp [di,bad] at hv;done)
         | (cases hb:(O.P.stoodInHeld t||O.P.eqGuardType O.P.depth t)<;>rw [hb] at hv<;>simp [di,bad] at hv)
  all_goals simp [di] at hv
 | buildSlice t n parts=>
  simp only [bt,ho] at hv
  repeat' split at hv
  all_goals first
   | (simp [di,bad] at hv;done)
   | (
     revert hv;generalize yG _ _=bb;intro hv;cases bb<;>simp [di,bad] at hv
     try (split at hv<;>simp [di,bad] at hv))
 | makeMap t r=>
  cases r<;>simp only [bt,ho] at hv
  ·repeat' split at hv
   all_goals simp [di,bad] at hv
  ·exact (mF hv).elim
 | _=>
  simp only [bt,ho] at hv
  (repeat' split at hv)
  all_goals first
   | contradiction
   | (simp [di,bad] at hv;done)
end
end
section
section
variable {hp H:Hp} {tm tm':Env}
def abf (hl:dw hp H) {id:Nat} {rw pu ex:Bool} {sz:Nat} {cs:List AV} (h:ak hp id=some (.cells rw pu ex sz cs)):∃fc,ak H id=some (.cells fc pu ex sz cs):=by
 obtain ⟨o',h1,fc,rfl,_⟩:=hl id _ h;exact ⟨fc,h1⟩
def abg (hl:dw hp H) {id:Nat} {rw:Bool} {ks vs:List AV} (h:ak hp id=some (.mp rw ks vs)):∃fc,ak H id=some (.mp fc ks vs):=by
 obtain ⟨o',h1,fc,rfl,_⟩:=hl id _ h;exact ⟨fc,h1⟩
def abh (hl:dw hp H) {sz:Nat} {ag:Bool} {x v:AV} (h:jd hp sz ag x=some v):jd H sz ag x=some v:=by
 cases x<;>simp only [jd,reduceCtorEq] at h ⊢
 ·rename_i id o
  cases hg:ak hp id with
  | none=>simp [hg] at h
  | some ob=>
   cases ob<;>simp only [hg,reduceCtorEq] at h
   obtain ⟨r,h1⟩:=abf hl hg;simp only [h1];exact h
 ·exact h
def aml (hl:dw hp H) {k x:AV} {v:Option AV} (h:Bb hp k x=some v):Bb H k x=some v:=by
 cases x<;>simp only [Bb,reduceCtorEq] at h ⊢
 ·exact h
 ·rename_i id
  cases hg:ak hp id with
  | none=>simp [hg] at h
  | some ob=>
   cases ob<;>simp only [hg,reduceCtorEq] at h
   obtain ⟨r,h1⟩:=abg hl hg;simp only [h1];exact h
 ·exact h
def amm (hl:dw hp H) {k:Nat} {x v:AV} (h:iI hp k x=some v):iI H k x=some v:=by
 unfold iI at h ⊢
 split at h
 all_goals first
  | exact h
  | cases h
  | skip
 rename_i id
 cases hg:ak hp id with
 | none=>simp [hg] at h
 | some ob=>
  cases ob<;>simp only [hg,reduceCtorEq] at h
  obtain ⟨r,h1⟩:=abg hl hg;simp only [h1];exact h
def amn (hl:dw hp H) {k:Cut} {x v:AV} {lo hi:Option X} (h:fL hp k x tm lo hi=some v):fL H k x tm lo hi=some v:=by
 unfold fL at h ⊢
 split at h
 all_goals first
  | exact h
  | cases h
  | skip
 rename_i sz id o n
 cases hg:ak hp id with
 | none=>simp [hg] at h
 | some ob=>
  cases ob<;>simp only [hg,reduceCtorEq] at h
  obtain ⟨r,h1⟩:=abf hl hg;simp only [h1];exact h
def akl (hl:dw hp H) {o:Op} {v:AV} (h:bE tm hp o=some v):bE tm H o=some v:=by
 cases o<;>simp only [bE,reduceCtorEq] at h ⊢<;>first
  | exact h
  | exact abh hl h
  | exact amm hl h
  | exact amn hl h
  | skip
 rename_i kk zero ok m k
 cases hk:sS kk (aA tm k) with
 | false=>rw [hk] at h;cases h
 | true=>
  rw [hk] at h;simp only [ym] at h ⊢
  cases hr:Bb hp (aA tm k) (aA tm m) with
  | none=>simp [hr] at h
  | some r=>rw [aml hl hr];simpa only [hr] using h
def akm {o:Op} (hk:bH o=0) (hp H:Hp):bE tm hp o=bE tm H o:=by
 cases o with
 | ez k x lo hi=>
  cases k with
  | str=>simp only [bE,fL];cases aA tm x<;>rfl
  | sl sz=>simp [bH] at hk
  | ar n sz=>simp [bH] at hk
 | len k x=>
  match k,hk with
  | 0,_=>simp only [bE];unfold iI;split<;>simp_all
  | 1,_=>simp only [bE];unfold iI;split<;>simp_all
  | k+2,hk=>simp [bH] at hk
 | call md f xs=>cases md<;>simp [bH] at hk
 | _=>first
  | rfl
  | simp [bH] at hk
end
section
variable {tm tm':Env}
def ep {x:X} (h:∀t,t∈jI x->af tm' t=af tm t):aA tm' x=aA tm x:=by
 cases x with
 | t i=>exact h i (by simp [jI])
 | c v=>rfl
def Cj:∀{xs:List X},(∀t,t∈zb xs->af tm' t=af tm t)->dG tm' xs=dG tm xs
 | [],_=>rfl
 | x::r,h=>by
  simp only [dG]
  rw [ep (x:=x) (fun t ht=>h t (by simp [zb,ht])),Cj (fun t ht=>h t (by simp [zb,ht]))]
def Q9:∀{ps:List (Nat×Nat×X)} {z:List AV},(∀t,t∈I5 ps->af tm' t=af tm t)->fill tm' z ps=fill tm z ps
 | [],_,_=>rfl
 | (o,s,x)::r,z,h=>by
  simp only [fill]
  rw [ep (x:=x) (fun t ht=>h t (by simp [I5,ht]))]
  rw [Q9 (ps:=r) (fun t ht=>h t (by simp [I5,ht]))]
def Yz {d:Nat} {x:Option X} (h:∀t,t∈I4 x->af tm' t=af tm t):cP tm' d x=cP tm d x:=by
 cases x with
 | none=>rfl
 | some x=>simp only [cP];rw [ep h]
def ajg {hp:Hp} {k:Cut} {x:AV} {lo hi:Option X} (h1:∀t,t∈I4 lo->af tm' t=af tm t) (h2:∀t,t∈I4 hi->af tm' t=af tm t):
  fL hp k x tm' lo hi=fL hp k x tm lo hi:=by
 unfold fL;simp only [Yz h1,Yz h2]
def aiJ {hp:Hp} {o:Op} (h:∀t,t∈kO o->af tm' t=af tm t):bE tm' hp o=bE tm hp o:=by
 cases o<;>simp only [kO,wv] at h<;>simp only [bE]
 case pick c a b=>rw [ep (x:=c) fun t ht=>h t (.inl ht),ep (x:=a) fun t ht=>h t (.inr (.inl ht)),ep (x:=b) fun t ht=>h t (.inr (.inr ht))]
 case cC z ps=>rw [Q9 h]
 case pk f a b=>rw [Cj (xs:=a) fun t ht=>h t (.inl ht),Cj (xs:=b) fun t ht=>h t (.inr ht)]
 case ez k x lo hi=>rw [ep (x:=x) fun t ht=>h t (.inl ht),ajg (fun t ht=>h t (.inr (.inl ht))) (fun t ht=>h t (.inr (.inr ht)))]
 case mn xs=>rw [Cj h]
 case mx xs=>rw [Cj h]
 case bin op x y=>rw [ep (x:=x) fun t ht=>h t (.inl ht),ep (x:=y) fun t ht=>h t (.inr ht)]
 case eq n k x y=>rw [ep (x:=x) fun t ht=>h t (.inl ht),ep (x:=y) fun t ht=>h t (.inr ht)]
 case bk s x y=>rw [ep (x:=x) fun t ht=>h t (.inl ht),ep (x:=y) fun t ht=>h t (.inr ht)]
 case nZ l s x y=>rw [ep (x:=x) fun t ht=>h t (.inl ht),ep (x:=y) fun t ht=>h t (.inr ht)]
 case lz x y=>rw [ep (x:=x) fun t ht=>h t (.inl ht),ep (x:=y) fun t ht=>h t (.inr ht)]
 case qJ l s g x y=>rw [ep (x:=x) fun t ht=>h t (.inl ht),ep (x:=y) fun t ht=>h t (.inr ht)]
 case Pg kk z ok x y=>rw [ep (x:=x) fun t ht=>h t (.inl ht),ep (x:=y) fun t ht=>h t (.inr ht)]
 all_goals first
  | rfl
  | (rename_i x;rw [ep (x:=x) h])
def Hv {hp ao:Hp} {ct:Nat} {o:Op} (h:∀t,t∈kO o->af tm' t=af tm t):da tm' ao ct o=da tm hp ct o:=by
 cases o<;>simp only [kO,wv] at h<;>simp only [da]
 case box s x=>rw [ep (x:=x) h]
 case bN n s z ps=>rw [Q9 h]
 case ig s b z x y=>rw [ep (x:=x) fun t ht=>h t (.inl ht),ep (x:=y) fun t ht=>h t (.inr ht)]
 case po x=>rw [ep (x:=x) h]
def D4 {hp:Hp} {ct:Nat} {o:Op} (h:∀t,t∈kO o->af tm' t=af tm t):di tm' hp ct o=di tm hp ct o:=by
 cases o<;>simp only [kO,wv] at h<;>simp only [di]
 case st s x y=>rw [ep (x:=x) fun t ht=>h t (.inl ht),ep (x:=y) fun t ht=>h t (.inr ht)]
 case pn kk c a b=>rw [ep (x:=c) fun t ht=>h t (.inl ht),ep (x:=a) fun t ht=>h t (.inr (.inl ht)),ep (x:=b) fun t ht=>h t (.inr (.inr ht))]
 case pq x=>rw [ep (x:=x) h]
 case dL s b x y=>rw [ep (x:=x) fun t ht=>h t (.inl ht),ep (x:=y) fun t ht=>h t (.inr ht)]
 case pv s x y=>rw [ep (x:=x) fun t ht=>h t (.inl ht),ep (x:=y) fun t ht=>h t (.inr ht)]
end
end
end VE
