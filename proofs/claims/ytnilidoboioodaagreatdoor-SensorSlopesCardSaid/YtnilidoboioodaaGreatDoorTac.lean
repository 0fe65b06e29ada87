import Derived.IntWalk
import Derived.Laws.CopyOwn
import Derived.Test.YtnilidoboioodaaGreatDoorTab
set_option linter.all false
set_option maxRecDepth 100000
open Array renaming getElem?_eq_some_iff→xg,getElem?_modify→ta,getElem?_toList→vN,length_toList→wQ,range→vU
open Bool renaming and_eq_true→yf,false_eq_true→yB
open Go renaming Ending→yai,Loop→vX,Next→tK,Obj→yaB,Oper→yL,Operand→xe,Program→yK,TypeId→yq,TypeInfo→ybp,Value→yg,World→yh,sizeOf→vD
open List renaming append_assoc→xn,eq_nil_of_length_eq_zero→yA,ext_getElem?→tL,flatten_append→tA,flatten_cons→wk,getElem?_append_left→xK,getElem?_append_right→xC,getElem?_drop→tH,getElem?_map→uk,getElem?_take_of_lt→vH,getElem?_toArray→tg,length_append→yU,length_drop→xJ,length_take→yQ,mem_append→xY,range→wL,replicate→yC,replicate_succ→wO,size_toArray→vO,take_of_length_le→yD,take_succ_cons→wN
open Nat renaming add_mul→xZ,add_zero→yX,beq→ym,beq_refl→wI,ble→yx,blt→yF,eq_of_beq_eq_true→yi,eq_zero_or_pos→xj,le_of_ble_eq_true→yr,le_refl→yv,lt_of_lt_of_le→yR,min_le_left→yah,mul_comm→xv,mul_le_mul_right→yS,zero_add→yj
open Option renaming isSome_none→tn
open Option.some renaming injEq→yb
open Prod.mk renaming injEq→yk
open UInt8 renaming toNat→yZ
namespace VE
section
open Go
section
variable {O:bh} {H:Hint} {m:Mp} {S:Nat->Prop} {w:yh} {tm:Env} {a:Act} {hp:Hp} {ct cq:Nat}
def HR {ab:Nat->Nat} {b:Nat} {arr:Array yg} {t:yq} {fr:Nat×Nat} (hb:w.heap[b]? =some (.cells arr t fr)):∀(cs:List AV) (us:List yg) (o:Nat),
  au ab m S w cs us->(∀(j:Nat) (u:yg),us[j]? =some u->arr[o+j]? =some u)->bF ab m S w cs b o
 | [],us,o,_,_=>by simp only [bF]
 | c::cs,us,o,h,hu=>by
  simp only [au] at h;obtain ⟨u,r,rfl,h2,h3⟩:=h;simp only [bF];refine ⟨⟨u,?_,h2⟩,HR hb cs r (o+1) h3 (fun j v hv=>?_)⟩
  ·have:=hu 0 u (by simp)
   simpa [World.cell?,hb] using this
  ·have:=hu (j+1) v (by simpa using hv)
   rw [show o+1+j=o+(j+1) by omega];exact this
def afC (hh:aQ O m S w hp cq) {i:Nat} {arr:Array yg} {t:yq} {cs:List AV} {us:List yg} {pu ex:Bool} {sz:Nat} (hr:au O.ab m S w cs us)
  (hu:∀(j:Nat) (u:yg),us[j]? =some u->arr[j]? =some u) (hl:cs.length<=arr.size) (hex:ex=true->cs.length=arr.size) (gj:pu=true->aC cs=true)
  (m':Mp) (hm:cJ m m') (hi:m' i=some ⟨w.heap.size,0,arr.size,sz⟩):dX O m' S (w.alloc (.cells arr t)) i (.cells true pu ex sz cs):=by
 refine ⟨⟨w.heap.size,0,arr.size,sz⟩,arr,t,hi,heap_alloc_new w _,rfl,hl,by simp,hex,?_,gj,?_,by simp⟩
 ·exact HR (heap_alloc_new w _) cs us 0 (fu hm (fun _ h=>h) (D8 hh _) _ _ hr) (by simpa using hu)
 ·intro _ hS
  have:=hh.slt _ hS
  simp at this
def As (O:bh) (m:Mp) (S:Nat->Prop) (w:yh) (a:Act) (ct:Nat) (o:yL) (v:AV) (b:Obj):Prop:=
 ∃u g p,(execOp a.eval o).run O.P w= .ok (.value u) (w.alloc g)/\p.b=w.heap.size/\¬fV b/\
  ∀m',cJ m m'->m' ct=some p->dX O m' S (w.alloc g) ct b/\ae O.ab m' S (w.alloc g) v u
def LD {o:yL} {arr:Array yg} {t:yq} {cs:List AV} {us:List yg} {pu ex:Bool} {sz:Nat} {v:AV} {u:yg} (hh:aQ O m S w hp cq)
  (he:(execOp a.eval o).run O.P w= .ok (.value u) (w.alloc (.cells arr t))) (hr:au O.ab m S w cs us)
  (hu:∀(j:Nat) (u:yg),us[j]? =some u->arr[j]? =some u) (hl:cs.length<=arr.size) (hex:ex=true->cs.length=arr.size) (gj:pu=true->aC cs=true)
  (hv:∀m':Mp,m' ct=some ⟨w.heap.size,0,arr.size,sz⟩->ae O.ab m' S (w.alloc (.cells arr t)) v u):As O m S w a ct o v (.cells true pu ex sz cs):=
 ⟨u,_,⟨w.heap.size,0,arr.size,sz⟩,he,rfl,by simp [fV],fun m' hm hi=>⟨afC hh hr hu hl hex gj m' hm hi,hv m' hi⟩⟩
def SH {o:yL} {t:yq} {x:yg} {vx v:AV} {b:Obj} {sz:Nat} (hh:aQ O m S w hp cq) (he:(execOp a.eval o).run O.P w= .ok (.value (.pointer (some ⟨w.heap.size,0,none⟩))) (w.alloc (.cells x.cells t))) (hx:au O.ab m S w (cellsOf vx) x.cells.toList)
  (hv:(bif ym (cellsOf vx).length sz&&cd (cellsOf vx) then some (AV.ptr ct 0,Obj.cells true (aC (cellsOf vx)) true sz (cellsOf vx)) else none)=some (v,b)):As O m S w a ct o v b:=by
 cases hc:(ym (cellsOf vx).length sz&&cd (cellsOf vx)) with
 | false=>rw [hc] at hv;cases hv
 | true=>
  rw [hc] at hv;obtain ⟨rfl,rfl⟩:=hv;have hlen:=eZ _ _ hx;refine LD hh he hx (fun j u hj=>by simpa using hj) (by rw [<-hlen];simp) (fun _=>by rw [<-hlen];simp) (fun h=>h) (fun m' hi=>?_)
  simp only [ae];exact ⟨_,hi,by simp⟩
def adx {o:yL} {t:yq} {r:Option xe} (hh:aQ O m S w hp cq) (ho:o.op= .makeMap t r) (hr:r=none):As O m S w a ct o (.map ct) (.mp true [] []):=by
 subst hr;refine ⟨.map (some w.heap.size),.map #[] 0,⟨w.heap.size,0,0,0⟩,by simp [execOp,ho,Instr.makeMap],rfl,by simp [fV],fun m' _ hi=>⟨?_,?_⟩⟩
 ·refine ⟨_,#[],0,hi,heap_alloc_new w _,by simp [au],by simp [au],?_,by simp⟩;intro _ hS
  have:=hh.slt _ hS
  simp at this
 ·simp only [ae];exact ⟨_,hi,rfl⟩
def abF {o:yL} {t:yq} {x:xe} {s:List Nat} (hh:aQ O m S w hp cq) (ho:o.op= .range t x) (hu:O.P.underlying t=some .string) (hx:ae O.ab m S w (.str s) (a.eval x)):
  As O m S w a ct o (.it ct) (.si s 0):=by
 obtain ⟨b,e,rfl⟩:=hx;refine ⟨.pointer (some ⟨w.heap.size,0,none⟩),.stringIter b 0,⟨w.heap.size,0,0,0⟩,by simp [execOp,ho,Instr.range,run_underlying hu,e],rfl,by simp [fV],fun m' _ hi=>⟨?_,?_⟩⟩
 ·refine ⟨_,b,hi,heap_alloc_new w _,rfl,?_⟩;intro hS
  have:=hh.slt _ hS
  simp at this
 ·simp only [ae];exact ⟨_,hi,rfl⟩
end
def abG (zero:Array yg):(wL zero.size).map (fun j=>zero[j]!)=zero.toList:=by
 apply List.ext_getElem
 ·simp
 ·grind
def Q1 (zero:Array yg):∀n:Nat,(wL (n*zero.size)).map (fun i=>zero[i%zero.size]!)=(yC n zero.toList).flatten
 | 0=>by simp
 | n+1=>by
  rw [xZ,Nat.one_mul,List.range_add,List.map_append,Q1 zero n,List.replicate_succ',tA]
  congr 1
  simp only [List.map_map,wk,List.flatten_nil,List.append_nil];rw [<-abG zero];apply List.map_congr_left;intro j hj;simp at hj;simp [Function.comp,xv n,Nat.mod_eq_of_lt hj]
def L5 {ab:Nat->Nat} {m:Mp} {S:Nat->Prop} {w:yh} {cs:List AV} {us:List yg} (h:au ab m S w cs us):∀n,au ab m S w (yC n cs).flatten (yC n us).flatten
 | 0=>by simp [au]
 | n+1=>by rw [wO,wO,wk,wk];exact jo h (L5 h n)
section
variable {O:bh} {H:Hint} {m:Mp} {S:Nat->Prop} {w:yh} {tm:Env} {a:Act} {hp:Hp} {ct cq:Nat}
def RU (zero:Array yg) (n:Nat):(Array.map (fun i=>zero[i%zero.size]!) (vU (n*zero.size))).toList=(yC n zero.toList).flatten:=by
 rw [<-Q1 zero n]
 simp
def SI (tm:Env):∀(ps:List (Nat×Nat×X)) (zero cs:List AV),fill tm zero ps=some cs->cs.length=zero.length
 | [],zero,cs,h=>by simp only [fill,yb] at h;rw [h]
 | (o,sz,x)::r,zero,cs,h=>by
  simp only [fill] at h
  cases hc:(ym (cellsOf (ao tm x)).length sz&&yx (o+sz) zero.length&&cd (cellsOf (ao tm x))) with
  | false=>rw [hc] at h;cases h
  | true=>
   rw [hc] at h;simp only [yf] at hc;have h1:=yi hc.1.1;have h2:=yr hc.1.2;rw [SI tm r _ _ h];simp only [over,yU,yQ,xJ];omega
def H9 {α:Type} (l:List α):∀n,(yC n l).flatten.length=n*l.length
 | 0=>by simp
 | n+1=>by simp [wO,H9 l n,xZ,Nat.add_comm]
def abH {o:yL} {t e:yq} {n s:Nat} {z:AV} {parts:Array (Nat×xe)} {ps:List (Nat×Nat×X)} {v:AV} {b:Obj} (hH:dZ O H) (ht:bH O m S w tm a.tmps) (hh:aQ O m S w hp cq)
  (ho:o.op= .buildSlice t n parts) (hu:O.P.underlying t=some (.slice e)) (hs:bX O.P e=some s) (hz:jz O.P e=some z) (hn:n*s<=16777216)
  (fR:partsOf H (fun i=>some (i*s,s)) parts.toList=some ps)
  (hv:ck tm hp ct (.fB n s (yC n (cellsOf z)).flatten ps)=some (v,b)):As O m S w a ct o v b:=by
 simp only [ck] at hv
 cases hf:fill tm (yC n (cellsOf z)).flatten ps with
 | none=>simp [hf] at hv
 | some cs=>
  simp only [hf] at hv
  cases hc:ym cs.length (n*s) with
  | false=>rw [hc] at hv;cases hv
  | true=>
   rw [hc] at hv;simp only [yp,yb,yk] at hv;obtain ⟨rfl,rfl⟩:=hv;have hlen:=yi hc;obtain ⟨zv,ku,rfl⟩:=BE (w:=w) hz;have qQ:au O.ab m S w (cellsOf (dP zv)) zv.cells.toList:=zG zv;have nS:=eZ _ _ qQ;have Kn:=SI tm ps _ _ hf;rw [H9] at Kn;have CK:n*s=n*zv.cells.size:=by
    rw [<-hlen,Kn,<-nS];simp
   have key:∃zr:Array yg,(n*s=0->zr=#[])/\(n*s≠0->zr=zv.cells)/\au O.ab m S w (yC n (cellsOf (dP zv))).flatten ((vU (n*s)).map (fun x=>zr[x%zr.size]!)).toList:=by
    by_cases h0:n*s=0
    ·refine ⟨#[],fun _=>rfl,fun h=>(h h0).elim,?_⟩
     have:(yC n (cellsOf (dP zv))).flatten=[]:=by
      apply yA;rw [H9,<-nS];simp only [wQ];omega
     rw [this];simp [au,h0]
    ·refine ⟨zv.cells,fun h=>(h0 h).elim,fun _=>rfl,?_⟩;rw [CK,RU];exact L5 qQ n
   obtain ⟨zr,Gz,kU,qR⟩:=key;obtain ⟨out,h1,h2⟩:=Iy hH ht (place:=fun i=>some (i*s,s)) parts.toList ps _ cs _ fR qR hf;have qO:=eZ _ _ h2
   refine LD (arr:=out) (t:=e) (us:=out.toList) hh ?_ h2 (fun j u hj=>by simpa using hj) (by rw [<-qO];simp) (fun _=>by rw [<-qO];simp) (fun h=>h) (u:= .slice (some ⟨w.heap.size,0,none⟩) n n) ?_
   ·have kv:¬(n*s>2^24):=by omega
    by_cases h0:n*s=0
    ·have:=Gz h0
     subst this;simp only [h0] at h1;simp [execOp,ho,Instr.buildSlice,run_underlying hu,li hs,h0,newRow] at h1 ⊢;simp [h1]
    ·have:=kU h0
     subst this;simp [execOp,ho,Instr.buildSlice,run_underlying hu,li hs,h0,kv,ku,newRow] at h1 ⊢;simp [h1]
   ·intro m' hi;simp only [ae];refine ⟨_,n,hi,by simp,yv _,?_⟩;simp only [yj];rw [<-hlen,<-qO];simp
def zH:∀{a b:List AV},aC a=true->aC b=true->aC (a++b)=true
 | [],_,_,h=>h
 | c::r,b,h,k=>by
  simp only [aC,yf] at h;simp only [List.cons_append,aC,yf];exact ⟨h.1,zH h.2 k⟩
def RW {z:List AV} (h:aC z=true):∀n,aC (yC n z).flatten=true
 | 0=>by simp [aC]
 | n+1=>by rw [wO,wk];exact zH h (RW h n)
def ady {o:yL} {t e:yq} {s by':Nat} {z:AV} {l c:xe} {v:AV} {b:Obj} (hH:dZ O H) (ht:bH O m S w tm a.tmps) (hh:aQ O m S w hp cq)
  (ho:o.op= .makeSlice t l c) (hu:O.P.underlying t=some (.slice e)) (hs:bX O.P e=some s) (hb:oQ O.P e=some by') (hz:jz O.P e=some z)
  (hv:ck tm hp ct (.lU s by' (cellsOf z) (aH H l) (aH H c))=some (v,b)):As O m S w a ct o v b:=by
 simp only [ck] at hv
 cases hl:db (ao tm (aH H l)) with
 | none=>simp [hl] at hv
 | some ln=>
  cases hc:db (ao tm (aH H c)) with
  | none=>simp [hl,hc] at hv
  | some cn=>
   simp only [hl,hc] at hv
   cases hk:(yx ln cn&&(yx cn room&&(yx (cn*by') room&&(ym (cellsOf z).length s&&cd (cellsOf z))))) with
   | false=>rw [hk] at hv;cases hv
   | true=>
    rw [hk] at hv;simp only [yp,yb,yk] at hv;obtain ⟨rfl,rfl⟩:=hv;simp only [yf] at hk;have h1:=yr hk.1;have h2:=yr hk.2.1;have h3:=yr hk.2.2.1;have h4:=yi hk.2.2.2.1;simp only [room] at h2 h3;obtain ⟨kl,el⟩:=pJ (bI hH ht l) hl;obtain ⟨kc,ec⟩:=pJ (bI hH ht c) hc;obtain ⟨zv,ku,rfl⟩:=BE (w:=w) hz;have qQ:au O.ab m S w (cellsOf (dP zv)) zv.cells.toList:=zG zv;have nS:=eZ _ _ qQ;have AZ:zv.cells.size=s:=by rw [<-h4,<-nS];simp
    have wrapN:∀k:Nat,k<=1099511627776->IntKind.i64.wrap (k:Int)=k:=fun k hk=>IntWalk.i64_in _ (by omega)
    obtain ⟨ti,nT,dM,O3⟩:∃ti,O.P.info? e=some ti/\ti.size=s/\ti.bytes=by':=by
     unfold bX at hs;unfold oQ at hb
     cases hi:O.P.info? e with
     | none=>simp [hi] at hs
     | some ti=>simp only [hi,yb] at hs hb;exact ⟨ti,rfl,hs,hb⟩
    have Az:((vU (cn*s)).map (zv.cells[·%zv.cells.size]!)).toList=(yC ln zv.cells.toList).flatten++(yC (cn-ln) zv.cells.toList).flatten:=by
     rw [<-AZ,RU,<-tA,List.replicate_append_replicate]
     grind
    have dR:(yC ln (cellsOf (dP zv))).flatten.length=ln*s:=by rw [H9,h4]
    have hmul:ln*s<=cn*s:=yS _ h1
    refine LD (arr:=(vU (cn*s)).map (zv.cells[·%zv.cells.size]!)) (t:=e) (us:=(yC ln zv.cells.toList).flatten) hh (u:= .slice (some ⟨w.heap.size,0,none⟩) ln cn) ?_
     (L5 qQ ln) ?_ ?_ ?_ (fun h=>?_) ?_
    ·have arv:by'*cn<=1099511627776:=by rw [xv];exact h3
     have oX:((by'*cn:Nat):Int)<=1099511627776:=by omega
     rw [Int.natCast_mul] at oX;have hlc:(ln:Int)<=(cn:Int):=by omega
     have g1:¬(281474976710656<(by':Int)*(cn:Int)):=by omega
     have g2:¬(((ln:Int)<0)):=by omega
     have g3:¬(((cn:Int)<0)):=by omega
     have g4:¬((ln:Int)>(cn:Int)):=by omega
     by_cases h0:cn*s=0
     ·simp [execOp,ho,Instr.makeSlice,run_underlying hu,el,ec,asInt,asIntOf,typeInfo,nT,O3,wrapN ln (by omega),wrapN cn h2,g1,g2,g3,g4,li hs,h0,newRow,askRoom,roomBytes]
      grind
     ·simp [execOp,ho,Instr.makeSlice,run_underlying hu,el,ec,asInt,asIntOf,typeInfo,nT,O3,wrapN ln (by omega),wrapN cn h2,g1,g2,g3,g4,li hs,h0,newRow,askRoom,roomBytes,ku]
    ·intro j u hj
     have:((vU (cn*s)).map (zv.cells[·%zv.cells.size]!)).toList[j]? =some u:=by
      grind
     grind
    ·grind
    ·simp_all
    ·exact RW h ln
    ·intro m' hi;simp only [ae];refine ⟨_,cn,hi,by simp,h1,?_⟩
     simp
def TN {o:yL} {k:Nat} {v:AV} {b:Obj} (hH:dZ O H) (ht:bH O m S w tm a.tmps) (hh:aQ O m S w hp cq)
  (hv:ck tm hp ct (aJ O.P H k o)=some (v,b)):As O m S w a ct o v b:=by
 cases ho:o.op with
 | call c=>
  obtain ⟨callee,args,ts⟩:=c;simp only [aJ,ho] at hv
  repeat' split at hv
  all_goals first
   | (simp [ck,bad] at hv;done)
   | (revert hv;generalize ym _ _=bb;intro hv;cases bb<;>simp [ck,bad] at hv)
 | alloc t=>
  simp only [aJ,ho] at hv
  split at hv
  ·rename_i s z hs hz;obtain ⟨zv,ku,rfl⟩:=BE (w:=w) hz
   exact SH (x:=zv) (t:=t) hh (by simp [execOp,ho,Instr.alloc,ku,newVar,newRow]) (zG zv) (by simpa only [ck,ao] using hv)
  ·simp [ck,bad] at hv
 | box t x=>
  simp only [aJ,ho] at hv
  split at hv
  ·rename_i s hs;simp only [ck] at hv
   cases hc:(ym (cellsOf (ao tm (aH H x))).length s&&cd (cellsOf (ao tm (aH H x)))) with
   | false=>rw [hc] at hv;cases hv
   | true=>
    have h1:=hc;simp only [yf] at h1
    exact SH (x:=a.eval x) (t:=t) hh (by simp [execOp,ho,Instr.box,newVar,newRow]) (LB (bI hH ht x) h1.2) hv
  ·simp [ck,bad] at hv
 | buildSlice t n parts=>
  simp only [aJ,ho] at hv
  split at hv
  ·rename_i e hu
   split at hv
   ·rename_i s z hs hz
    cases hc:yx (n*s) 16777216 with
    | false=>rw [hc] at hv;simp [ck,bad] at hv
    | true=>
     rw [hc] at hv;simp only [yp] at hv
     split at hv
     ·rename_i ps fR;exact abH hH ht hh ho hu hs hz (yr hc) fR hv
     ·simp [ck,bad] at hv
   ·simp [ck,bad] at hv
  ·simp [ck,bad] at hv
 | makeSlice t l c=>
  simp only [aJ,ho] at hv
  split at hv
  ·rename_i e hu
   split at hv
   ·rename_i s by' z hs hb hz
    exact ady hH ht hh ho hu hs hb hz hv
   ·simp [ck,bad] at hv
  ·simp [ck,bad] at hv
 | makeMap t r=>
  cases r with
  | some x=>simp [aJ,ho,ck,bad] at hv
  | none=>
   simp only [aJ,ho] at hv
   repeat' split at hv
   all_goals first
    | (simp [ck,bad] at hv;done)
    | (
      simp only [ck,yb,yk] at hv;obtain ⟨rfl,rfl⟩:=hv
      exact adx hh ho rfl)
 | range t x=>
  simp only [aJ,ho] at hv
  split at hv
  ·rename_i hu;simp only [ck] at hv;have rx:=bI hH ht x;cases hx:ao tm (aH H x)<;>rw [hx] at hv rx<;>simp only [reduceCtorEq] at hv
   simp only [yb,yk] at hv;obtain ⟨rfl,rfl⟩:=hv;exact abF hh ho hu rx
  ·simp [ck,bad] at hv
 | next x b=>cases b<;>simp [aJ,ho,ck,bad] at hv
 | binOp op t x y ty=>
  cases op<;>simp only [aJ,ho,kF,lB] at hv
  case eql=>
        repeat' split at hv
        all_goals first
         | (simp [ck,bad] at hv;done)
         | (cases hb:(O.P.stoodInHeld t||O.P.eqGuardType O.P.depth t)<;>rw [hb] at hv<;>simp [ck,bad] at hv)
  case neq=>
        repeat' split at hv
        all_goals first
         | (simp [ck,bad] at hv;done)
         | (cases hb:(O.P.stoodInHeld t||O.P.eqGuardType O.P.depth t)<;>rw [hb] at hv<;>simp [ck,bad] at hv)
  all_goals simp [ck] at hv
 | _=>
  simp only [aJ,ho] at hv
  (repeat' split at hv)
  all_goals first
   | contradiction
   | (simp [ck,bad] at hv;done)
end
end
section
open Go
def n8 {hp:Hp} {id i:Nat} {o:Obj}:ap (a6 hp id o) i=if id=i then (if (ap hp id).isSome then some o else none) else ap hp i:=by
 induction hp with
 | nil=>simp [a6,ap]
 | cons x r ih=>
  obtain ⟨j,q⟩:=x;simp only [a6];by_cases hj:j=id
  ·subst hj;simp only [wI,yp,ap];by_cases hi:j=i
   ·simp_all
   ·have:ym j i=false:=by
     cases hq:ym j i with
     | false=>rfl
     | true=>exact absurd (yi hq) hi
    grind
  ·have hb:ym j id=false:=by
    cases hq:ym j id with
    | false=>rfl
    | true=>exact absurd (yi hq) hj
   simp only [hb,yI];rw [show ap ((j,q)::a6 r id o) i=bif ym j i then some q else ap (a6 r id o) i from rfl,ih];by_cases hi:j=i
   ·subst hi
    have:¬id=j:=fun h=>hj h.symm
    simp [wI,this,ap]
   ·have oX:ym j i=false:=by
     cases hq:ym j i with
     | false=>rfl
     | true=>exact absurd (yi hq) hi
    simp [oX,ap,hb]
def iJ (hp an:Hp):Prop:=∀id,(ap an id).isSome=(ap hp id).isSome
def iJ.refl {hp:Hp}:iJ hp hp:=fun _=>rfl
def iJ.trans {a b c:Hp} (h:iJ a b) (k:iJ b c):iJ a c:=fun id=>(k id).trans (h id)
def Ms {hp:Hp} {id:Nat} {o o':Obj} (h:ap hp id=some o) (hl:gm o o'):cy hp (a6 hp id o')/\iJ hp (a6 hp id o'):=by
 constructor
 ·intro i q hq;rw [n8];by_cases hi:id=i
  ·grind
  ·exact ⟨q,by simp [hi,hq],gm.refl q⟩
 ·intro i;rw [n8]
  grind
def RX {hp H:Hp} {id:Nat} {pu ex:Bool} {sz:Nat} {cs:List AV} (hl:cy hp H) (h:ap hp id=some (.cells false pu ex sz cs)):ap H id=some (.cells false pu ex sz cs):=by
 obtain ⟨o',h1,ef,rfl,h2⟩:=hl id _ h
 cases ef with
 | false=>exact h1
 | true=>exact absurd (h2 rfl) (by simp)
section
variable {O:bh}
def akO (O:bh) (m:Mp) (S:Nat->Prop) (w:yh) (p:Pl) (ex:Bool) (sz:Nat) (cs:List AV):Prop:=
 p.z=sz/\cs.length<=p.e/\(ex=true->cs.length=p.e)/\S p.b/\aC cs=true/\bF O.ab m S w cs p.b p.o
def NL (O:bh) (an:Hp) (v v':AV):Prop:=∀H m S w ct,cy an H->aQ O m S w H ct->(∀u,ae O.ab m S w v u->ae O.ab m S w v' u)/\aX v'=true
def Ws (O:bh) (an:Hp) (vs dA:List AV):Prop:=∀H m S w ct,cy an H->aQ O m S w H ct->(∀us,au O.ab m S w vs us->au O.ab m S w dA us)/\aC dA=true
def amh (O:bh) (an:Hp) (id:Nat) (ex:Bool) (sz:Nat) (cs:List AV):Prop:=∀H m S w ct,cy an H->aQ O m S w H ct->∀p,m id=some p->akO O m S w p ex sz cs
def BA {ab:Nat->Nat} {m:Mp} {S:Nat->Prop} {w:yh} {b:Nat}:∀(cs:List AV) (us:List yg) (o:Nat),au ab m S w cs us->
  (∀(j:Nat) (u:yg),us[j]? =some u->w.cell? ⟨b,o+j,none⟩=some u)->bF ab m S w cs b o
 | [],us,o,_,_=>by simp only [bF]
 | c::cs,us,o,h,hu=>by
  obtain ⟨u,r,rfl,h2,h3⟩:=h;refine ⟨⟨u,by simpa using hu 0 u (by simp),h2⟩,BA cs r (o+1) h3 (fun j v hv=>?_)⟩;rw [show o+1+j=o+(j+1) by omega]
  simp_all
def akP {m:Mp} {S:Nat->Prop} {w:yh} {cs b8:List AV} (h:∀us,au O.ab m S w cs us->au O.ab m S w b8 us) {b o:Nat} (hr:bF O.ab m S w cs b o):bF O.ab m S w b8 b o:=by
 obtain ⟨us,h1,_,h3⟩:=nZ cs b o hr;exact BA b8 us o (h us h1) h3
def rm:∀(k:Nat) {cs:List AV},aC cs=true->aC (cs.take k)=true
 | 0,_,_=>by simp [aC]
 | k+1,[],_=>by simp [aC]
 | k+1,c::cs,h=>by
  simp only [aC,yf,wN] at h ⊢;exact ⟨h.1,rm k h.2⟩
def adz {an:Hp} {vs dA:List AV}:∀{n:Nat} {hp:Hp},cm n hp vs=some (dA,an)->dA.length=vs.length:=by
 intro n
 induction n generalizing vs dA an with
 | zero=>intro hp h;simp [cm] at h
 | succ n ih=>
  intro hp h
  cases vs with
  | nil=>simp only [cm,yb,yk] at h;rw [<-h.1]
  | cons v r=>
   simp only [cm] at h
   cases h1:freeze n hp v with
   | none=>simp [h1] at h
   | some q=>
    obtain ⟨v',bi⟩:=q;simp only [h1] at h
    cases h2:cm n bi r with
    | none=>simp [h2] at h
    | some q2=>
     grind
def Q2:∀n:Nat,
  (∀hp v v' an,freeze n hp v=some (v',an)->cy hp an/\iJ hp an/\NL O an v v')/\
  (∀hp id ex sz cs an,n5 n hp id=some (ex,sz,cs,an)->cy hp an/\iJ hp an/\amh O an id ex sz cs)/\
  (∀hp vs dA an,cm n hp vs=some (dA,an)->cy hp an/\iJ hp an/\Ws O an vs dA):=by
 intro n
 induction n with
 | zero=>refine ⟨?_,?_,?_⟩<;>intros<;>simp_all [freeze,n5,cm]
 | succ n ih=>
  obtain ⟨ihV,X4,CL⟩:=ih;refine ⟨?_,?_,?_⟩
  ·intro hp v v' an h;have plain:∀{v v':AV} {hp an:Hp},(bif aX v then some (v,hp) else none)=some (v',an)->cy hp an/\iJ hp an/\NL O an v v':=by
    intro v v' hp an h
    cases hc:aX v with
    | false=>rw [hc] at h;cases h
    | true=>
     rw [hc] at h;simp only [yp,yb,yk] at h;obtain ⟨rfl,rfl⟩:=h;exact ⟨cy.refl,iJ.refl,fun _ _ _ _ _ _ _=>⟨fun _ h=>h,hc⟩⟩
   cases v<;>simp only [freeze] at h<;>first | exact plain h | skip
   case ay id o k=>
    cases hb:n5 n hp id with
    | none=>simp [hb] at h
    | some q=>
     obtain ⟨ex,sz,cs,bi⟩:=q;simp only [hb] at h
     cases hc:yx (o+k*sz) cs.length with
     | false=>rw [hc] at h;cases h
     | true=>
      rw [hc] at h;simp only [yp,yb,yk] at h;obtain ⟨rfl,rfl⟩:=h;have hle:=yr hc;obtain ⟨h1,h2,h3⟩:=X4 _ _ _ _ _ _ hb;refine ⟨h1,h2,fun H m S w ct hl hh=>⟨fun u hu=>?_,by simp only [aX]⟩⟩;simp only [ae] at hu ⊢;obtain ⟨p,c,hm,rfl,qS,Km⟩:=hu;obtain ⟨g1,g2,g3,g4,g5,g6⟩:=h3 H m S w ct hl hh p hm;refine .inl ⟨p.b,p.o+o,c,rfl,qS,?_,.inr g4,rm _ (pC _ _ g5),rz _ _ _ _ (ns _ _ _ _ g6)⟩;intro hx;simp only [yf] at hx;have e1:=yi hx.2;have e2:0<sz:=by
       simp_all
      have e3:=g3 hx.1.1;rw [g1] at Km
      have:c*sz=k*sz:=by omega
      exact Nat.eq_of_mul_eq_mul_right e2 this
   case ptr id o=>
    cases hb:n5 n hp id with
    | none=>simp [hb] at h
    | some q=>
     obtain ⟨ex,sz,cs,bi⟩:=q;simp only [hb,yb,yk] at h;obtain ⟨rfl,rfl⟩:=h;obtain ⟨h1,h2,h3⟩:=X4 _ _ _ _ _ _ hb;refine ⟨h1,h2,fun H m S w ct hl hh=>⟨fun u hu=>?_,by simp only [aX]⟩⟩;simp only [ae] at hu ⊢;obtain ⟨p,hm,rfl⟩:=hu;obtain ⟨g1,g2,g3,g4,g5,g6⟩:=h3 H m S w ct hl hh p hm;exact ⟨p.b,p.o+o,rfl,.inr g4,pC _ _ g5,ns _ _ _ _ g6⟩
   case map id=>
    cases hg:ap hp id with
    | none=>simp [hg] at h
    | some ob=>
     cases ob<;>simp only [hg,reduceCtorEq] at h
     rename_i rw ks vs
     cases hc:(aC ks&&aC vs) with
     | false=>rw [hc] at h;cases h
     | true=>
      rw [hc] at h;simp only [yp,yb,yk] at h;obtain ⟨rfl,rfl⟩:=h;simp only [yf] at hc;obtain ⟨h1,h2⟩:=Ms hg (o':= .mp false ks vs) ⟨false,rfl,by simp⟩;refine ⟨h1,h2,fun H m S w ct hl hh=>⟨fun u hu=>?_,by simp only [aX]⟩⟩;simp only [ae] at hu ⊢;obtain ⟨p,hm,rfl⟩:=hu;have hq:ap (a6 hp id (.mp false ks vs)) id=some (.mp false ks vs):=by rw [n8];simp [hg]
      obtain ⟨o',h3,ef,rfl,h4⟩:=hl id _ hq;have sU:ef=false:=by cases ef with | false=>rfl | true=>exact absurd (h4 rfl) (by simp)
      subst sU;obtain ⟨p',es,clock,g1,g2,g3,g4,g5,g6⟩:=hh.obj id _ _ h3 hm;rw [hm] at g1;injection g1 with g1
      subst g1;exact ⟨p.b,es,clock,rfl,g6 rfl,hc.1,hc.2,g2,g3,g4⟩
   case fn f first cap=>
    cases f with
    | y l=>simp only [aX,yI,reduceCtorEq] at h
    | f g=>
     simp only at h
     cases h1:cm n hp first with
     | none=>simp [h1] at h
     | some q=>
      obtain ⟨UC,bi⟩:=q;simp only [h1] at h
      cases h2:cm n bi cap with
      | none=>simp [h2] at h
      | some q2=>
       obtain ⟨Jo,kR⟩:=q2;simp only [h2,yb,yk] at h;obtain ⟨rfl,rfl⟩:=h;obtain ⟨a1,a2,a3⟩:=CL _ _ _ _ h1;obtain ⟨b1,b2,b3⟩:=CL _ _ _ _ h2;refine ⟨a1.trans b1,a2.trans b2,fun H m S w ct hl hh=>?_⟩;obtain ⟨c1,c2⟩:=a3 H m S w ct (b1.trans hl) hh;obtain ⟨d1,d2⟩:=b3 H m S w ct hl hh;refine ⟨fun u hu=>?_,by simp [aX,c2,d2]⟩;simp only [ae] at hu ⊢;obtain ⟨fi,ca,rfl,e1,e2⟩:=hu;exact ⟨fi,ca,rfl,c1 _ e1,d1 _ e2⟩
   case agg cs=>
    cases h1:cm n hp cs with
    | none=>simp [h1] at h
    | some q=>
     obtain ⟨b8,bi⟩:=q;simp only [h1,yb,yk] at h;obtain ⟨rfl,rfl⟩:=h;obtain ⟨a1,a2,a3⟩:=CL _ _ _ _ h1;refine ⟨a1,a2,fun H m S w ct hl hh=>?_⟩;obtain ⟨c1,c2⟩:=a3 H m S w ct hl hh;refine ⟨fun u hu=>?_,by simpa [aX] using c2⟩;simp only [ae] at hu ⊢;obtain ⟨xs,rfl,e1⟩:=hu;exact ⟨xs,rfl,c1 _ e1⟩
   case av cs=>
    cases h1:cm n hp cs with
    | none=>simp [h1] at h
    | some q=>
     obtain ⟨b8,bi⟩:=q;simp only [h1,yb,yk] at h;obtain ⟨rfl,rfl⟩:=h;obtain ⟨a1,a2,a3⟩:=CL _ _ _ _ h1;refine ⟨a1,a2,fun H m S w ct hl hh=>?_⟩;obtain ⟨c1,c2⟩:=a3 H m S w ct hl hh;refine ⟨fun u hu=>?_,by simpa [aX] using c2⟩;simp only [ae] at hu ⊢;obtain ⟨xs,rfl,e1⟩:=hu;exact ⟨xs,rfl,c1 _ e1⟩
  ·intro hp id ex sz b8 an h;simp only [n5] at h
   cases hg:ap hp id with
   | none=>simp [hg] at h
   | some ob=>
    cases ob<;>simp only [hg,reduceCtorEq] at h
    rename_i rw pu oR sW cs
    cases pu with
    | true=>
     simp only [yp,yb,yk] at h;obtain ⟨rfl,rfl,rfl,rfl⟩:=h;have hq:cy hp (bif rw then a6 hp id (.cells false true oR sW cs) else hp)/\iJ hp (bif rw then a6 hp id (.cells false true oR sW cs) else hp)/\ap (bif rw then a6 hp id (.cells false true oR sW cs) else hp) id=some (.cells false true oR sW cs):=by
      cases rw with
      | true=>
       obtain ⟨h1,h2⟩:=Ms hg (o':= .cells false true oR sW cs) ⟨false,rfl,by simp⟩;exact ⟨h1,h2,by simp [n8,hg]⟩
      | false=>exact ⟨cy.refl,iJ.refl,hg⟩
     refine ⟨hq.1,hq.2.1,fun H m S w ct hl hh p hm=>?_⟩;obtain ⟨p',arr,t,g1,g2,g3,g4,g5,g6,g7,g8,g9,g10⟩:=hh.obj id _ _ (RX hl hq.2.2) hm;rw [hm] at g1;injection g1 with g1
     subst g1;exact ⟨g3,g4,g6,g10 rfl,g8 rfl,g7⟩
    | false=>
     simp only [yI] at h
     cases h1:cm n hp cs with
     | none=>simp [h1] at h
     | some q=>
      obtain ⟨oY,bi⟩:=q;simp only [h1,yb,yk] at h;obtain ⟨rfl,rfl,rfl,rfl⟩:=h;obtain ⟨a1,a2,a3⟩:=CL _ _ _ _ h1;obtain ⟨o1,fS,rw1,rfl,_⟩:=a1 id _ hg;obtain ⟨b1,b2⟩:=Ms fS (o':= .cells false false oR sW cs) ⟨false,rfl,by simp⟩;refine ⟨a1.trans b1,a2.trans b2,fun H m S w ct hl hh p hm=>?_⟩;have hq:ap (a6 bi id (.cells false false oR sW cs)) id=some (.cells false false oR sW cs):=by simp [n8,fS]
      obtain ⟨p',arr,t,g1,g2,g3,g4,g5,g6,g7,g8,g9,g10⟩:=hh.obj id _ _ (RX hl hq) hm;rw [hm] at g1;injection g1 with g1
      subst g1;obtain ⟨c1,c2⟩:=a3 H m S w ct (b1.trans hl) hh;have hlen:=adz h1
      exact ⟨g3,by omega,fun hx=>by have:=g6 hx;omega,g10 rfl,c2,akP c1 g7⟩
  ·intro hp vs dA an h
   cases vs with
   | nil=>
    simp only [cm,yb,yk] at h;obtain ⟨rfl,rfl⟩:=h;exact ⟨cy.refl,iJ.refl,fun _ _ _ _ _ _ _=>⟨fun _ h=>h,rfl⟩⟩
   | cons v r=>
    simp only [cm] at h
    cases h1:freeze n hp v with
    | none=>simp [h1] at h
    | some q=>
     obtain ⟨v1,bi⟩:=q;simp only [h1] at h
     cases h2:cm n bi r with
     | none=>simp [h2] at h
     | some q2=>
      obtain ⟨r1,kR⟩:=q2;simp only [h2,yb,yk] at h;obtain ⟨rfl,rfl⟩:=h;obtain ⟨a1,a2,a3⟩:=ihV _ _ _ _ h1;obtain ⟨b1,b2,b3⟩:=CL _ _ _ _ h2;refine ⟨a1.trans b1,a2.trans b2,fun H m S w ct hl hh=>?_⟩;obtain ⟨c1,c2⟩:=a3 H m S w ct (b1.trans hl) hh;obtain ⟨d1,d2⟩:=b3 H m S w ct hl hh;refine ⟨fun us hu=>?_,by simp [aC,c2,d2]⟩;simp only [au] at hu ⊢;obtain ⟨u,t,rfl,e1,e2⟩:=hu;exact ⟨u,t,rfl,c1 _ e1,d1 _ e2⟩
def Lo {n:Nat} {hp an:Hp} {vs dA:List AV} (h:cm n hp vs=some (dA,an)):cy hp an/\iJ hp an/\Ws O an vs dA:=(Q2 n).2.2 _ _ _ _ h
def LF {n:Nat} {hp an:Hp} {v v':AV} (h:freeze n hp v=some (v',an)):cy hp an/\iJ hp an/\NL O an v v':=(Q2 n).1 _ _ _ _ h
end
end
section
open Go
section
variable {O:bh} {H:Hint} {m:Mp} {S:Nat->Prop} {w:yh} {tm:Env} {a:Act} {hp:Hp} {ct:Nat}
structure One (w w':yh) (g:Nat):Prop where
 os:w'.os=w.os
 tape:w'.tape=w.tape
 output:w'.output=w.output
 size:w'.heap.size=w.heap.size
 other:∀b,b≠g->w'.heap[b]? =w.heap[b]?
def Lp (w:yh) (g:Nat) (cs:Array yg):One w (w.setRow g cs) g:=
 ⟨rfl,rfl,rfl,by simp,fun b hb=>setRow_other w g b cs hb⟩
def EL {id:Nat} {o:Obj} {p:Pl} (h:ap hp id=some o) (hm:m id=some p):dB m hp p.b:=⟨id,o,p,h,hm,rfl⟩
def adA {id:Nat} {o':Obj} {b:Nat} (h:dB m (a6 hp id o') b):dB m hp b:=by
 obtain ⟨i,o,p,h1,h2,h3⟩:=h;rw [n8] at h1;by_cases hi:id=i
 ·subst hi
  cases hq:ap hp id with
  | none=>simp [hq] at h1
  | some q=>exact ⟨id,q,p,hq,h2,h3⟩
 ·simp only [hi,y8] at h1;exact ⟨i,o,p,h1,h2,h3⟩
def Eo (hh:aQ O m S w hp ct) {id:Nat} {o o':Obj} {p:Pl} {w':yh} (ho:ap hp id=some o) (hm:m id=some p) (hn:¬S p.b) (hw:One w w' p.b) (h':dX O m S w' id o') (hk:∀r:vX,w.heap[p.b]? =some (.loop r)->∃r':vX,w'.heap[p.b]? =some (.loop r')):
  aQ O m S w' (a6 hp id o') ct/\bM m S w hp m S w' (a6 hp id o') ct:=by
 have aP:eF S w w':=fun b hb=>hw.other b (fun e=>hn (e▸hb))
 refine ⟨⟨?_,hh.lt,?_,?_,?_,hh.low,?_,?_,fun i q hq=>(by
  rw [n8] at hq;by_cases hc:id=i
  ·subst hc;exact hh.aO _ _ ho
  ·simp only [hc,y8] at hq;exact hh.aO _ _ hq)⟩,⟨hw.os,hw.tape,hw.output,by rw [hw.size];exact yv _,?_,fun _ h=>h,fun b hb=>aP b hb,fun b hb=> .inl hb,fun b hb=> .inl (adA hb),fun _ _ _ h=>h,fun b r hb=>?_⟩⟩
 rotate_right
 ·by_cases hc:b=p.b
  ·subst hc;exact hk r hb
  ·exact ⟨r,(hw.other b hc).trans hb⟩
 ·intro i q pi hi br;rw [n8] at hi;by_cases hc:id=i
  ·subst hc;simp only [xm,ho,Option.isSome_some] at hi;injection hi with hi
   subst hi;exact h'
  ·simp only [hc,y8] at hi;refine n7 (fun _ _ h=>h) (fun _ h=>h) aP (fun q' bB=>?_) (fun _ _ h=>h) (hh.obj i q pi hi br);exact hw.other _ (fun e=>hc (hh.inj i id q o q' p hi ho bB hm e).symm)
 ·intro i j oi oj pi pj hi hj br eV e;have key:∀{i:Nat} {oi:Obj},ap (a6 hp id o') i=some oi->∃Gx,ap hp i=some Gx:=by
   intro i oi hi;rw [n8] at hi;by_cases hc:id=i
   ·subst hc;exact ⟨o,ho⟩
   ·simp only [hc,y8] at hi;exact ⟨oi,hi⟩
  obtain ⟨Gx,dJ⟩:=key hi;obtain ⟨Gw,O2⟩:=key hj;exact hh.inj i j Gx Gw pi pj dJ O2 br eV e
 ·intro b hb;rw [hw.size];exact hh.slt b hb
 ·intro i q hq;rw [hw.size];exact hh.blt i q hq
 ·intro b hb
  rw [hw.other b (fun e=>by have:=hh.low id p hm;omega)];exact hh.jF b hb
 ·rw [hw.size];exact hh.eK
 ·intro b _ hb;exact hw.other b (fun e=>hb (e▸EL ho hm))
def pV (O:bh) (m:Mp) (S:Nat->Prop) (w:yh) (a:Act) (hp:Hp) (ct:Nat) (o:yL) (v:AV) (an:Hp) (aT:Nat):Prop:=
 ∃n u w' m' S',(execOp a.eval o).run O.P w= .ok n w'/\(n= .value u\/(n= .skip/\u=undef))/\aQ O m' S' w' an aT/\ae O.ab m' S' w' v u/\cJ m m'/\bM m S w hp m' S' w' an ct
def adB {ab:Nat->Nat} {v:AV} {u:yg} (h:ae ab m S w v u) (ho:cw v=true):u.oneCell'=true:=by
 cases v with
 | fn f a b=>
  cases f with
  | f g=>simp only [ae] at h;obtain ⟨_,_,rfl,_⟩:=h;rfl
  | y l=>simp only [ae] at h;obtain ⟨_,_,rfl⟩:=h;rfl
 | int k n=>simp only [ae] at h;subst h;rfl
 | bool b=>simp only [ae] at h;subst h;rfl
 | aD k n=>simp only [ae] at h;subst h;rfl
 | c9 k n i=>simp only [ae] at h;subst h;rfl
 | str s=>simp only [ae] at h;obtain ⟨_,rfl,_⟩:=h;rfl
 | jB=>simp only [ae] at h;subst h;rfl
 | ptr i k=>simp only [ae] at h;obtain ⟨_,_,rfl⟩:=h;rfl
 | bR cs=>simp only [ae] at h;obtain ⟨_,_,rfl,_⟩:=h;rfl
 | af=>simp only [ae] at h;subst h;rfl
 | aq e n cs=>simp only [ae] at h;rcases h with ⟨_,_,_,rfl,_⟩ | ⟨_,rfl,_,_⟩<;>rfl
 | cx _ _ _ _=>simp [cw] at ho
 | ay i k n=>simp only [ae] at h;obtain ⟨_,_,_,rfl,_⟩:=h;rfl
 | gK=>simp only [ae] at h;subst h;rfl
 | iO=>simp only [ae] at h;subst h;rfl
 | map i=>simp only [ae] at h;obtain ⟨_,_,rfl⟩:=h;rfl
 | iP ks vs=>simp only [ae] at h;obtain ⟨_,_,_,rfl,_⟩:=h;rfl
 | it i=>simp only [ae] at h;obtain ⟨_,_,rfl⟩:=h;rfl
 | agg cs=>simp [cw] at ho
 | av cs=>simp [cw] at ho
 | undef=>simp [cw] at ho
def HS {ab:Nat->Nat}:∀{vs:List AV} {us:List yg},au ab m S w vs us->cd vs=true->∀u∈us,u.oneCell'=true
 | [],us,h,_,u,hu=>by simp only [au] at h;subst h;cases hu
 | v::r,us,h,ho,u,hu=>by
  obtain ⟨u',t,rfl,h1,h2⟩:=h;simp only [cd,yf] at ho;rcases List.mem_cons.1 hu with rfl | hu
  ·exact adB h1 ho.1
  ·exact HS h2 ho.2 u hu
def SJ {arr:Array yg} {t:yq} {p:Pl} {cs new:List AV} {vs:List yg} {o:Nat} {S':Nat->Prop} {m':Mp} (hb:w.heap[p.b]? =some (.cells arr t (0,0))) (hr:bF O.ab m S w cs p.b p.o)
  (hv:au O.ab m S w new vs) (hl:o+new.length<=cs.length) (hs:p.o+cs.length<=arr.size) {w':yh} (hm:cJ m m') (hS:∀b,S b->S' b) (aP:eF S w w')
  (hw:w'.heap[p.b]? =some (.cells (arr.toList.take (p.o+o)++vs++arr.toList.drop (p.o+o+vs.length)).toArray t (0,0))):bF O.ab m' S' w' (over o new cs) p.b p.o:=by
 obtain ⟨us,h1,h2,h3⟩:=nZ cs p.b p.o hr;have hvl:=eZ _ _ hv;have h4:au O.ab m S w (over o new cs) (us.take o++vs++us.drop (o+new.length)):=jo (jo (Bv o h1) hv) (Ee _ h1);refine BA _ _ _ (fu hm hS aP _ _ h4) (fun j u hj=>?_);have At:∀k u,us[k]? =some u->arr[p.o+k]? =some u:=by
  intro k u hk
  have:=h3 k u hk
  simpa [World.cell?,hb] using this
 simp only [World.cell?,hw,tn,yB,y8];rw [tg];have e1:(arr.toList.take (p.o+o)).length=p.o+o:=by rw [yQ,wQ];omega
 have e2:(us.take o).length=o:=by rw [yQ];omega
 by_cases c1:j<o
 ·have g1:(us.take o++vs++us.drop (o+new.length))[j]? =us[j]? :=by
   rw [xn,xK (by omega),vH c1]
  rw [g1] at hj;rw [xn,xK (by omega),vH (by omega)];simpa using At j u hj
 ·by_cases c2:j<o+vs.length
  ·have g1:(us.take o++vs++us.drop (o+new.length))[j]? =vs[j-o]? :=by
    rw [xn,xC (by omega),e2,xK (by omega)]
   rw [g1] at hj;rw [xn,xC (by omega),e1,xK (by omega),show p.o+j-(p.o+o)=j-o by omega];exact hj
  ·have g1:(us.take o++vs++us.drop (o+new.length))[j]? =us[j]? :=by
    rw [xn,xC (by omega),e2,xC (by omega),tH]
    congr 1
    omega
   rw [g1] at hj;rw [xn,xC (by omega),e1,xC (by omega),tH,show p.o+o+vs.length+(p.o+j-(p.o+o)-vs.length)=p.o+j by omega];simpa using At j u hj
def Ia {o:Nat} {new cs:List AV} (hl:o+new.length<=cs.length):(over o new cs).length=cs.length:=by
 simp only [over,yU,yQ,xJ];omega
def Q3 {o:Nat} {new cs:List AV} (h:aC cs=true) (h':aC new=true):aC (over o new cs)=true:=
 zH (zH (rm _ h) h') (pC _ _ h)
def afD {o:yL} {t:yq} {x y:xe} {sz:Nat} {v:AV} {an:Hp} {aT:Nat} (hH:dZ O H) (ht:bH O m S w tm a.tmps) (hh:aQ O m S w hp ct)
  (ho:o.op= .store t x y) (hz:bX O.P t=some sz) (hv:bT tm hp ct (.st sz (aH H x) (aH H y))=some (v,an,aT)):pV O m S w a hp ct o v an aT:=by
 simp only [bT] at hv;have rx:=bI hH ht x;cases hx:ao tm (aH H x)<;>rw [hx] at hv rx<;>simp only [reduceCtorEq] at hv
 rename_i id k;simp only [ae] at rx;obtain ⟨p,hm,ex⟩:=rx
 split at hv
 case h_2=>cases hv
 rename_i pu Ko z cs hg
 cases hc:(ym (cellsOf (ao tm (aH H y))).length sz&&yx (k+sz) cs.length&&cd (cellsOf (ao tm (aH H y)))) with
 | false=>rw [hc] at hv;cases hv
 | true=>
  rw [hc] at hv;simp only [yp,yb,yk] at hv;obtain ⟨rfl,rfl,rfl⟩:=hv;simp only [yf] at hc;have c1:=yi hc.1.1;have c2:=yr hc.1.2;have ry:=LB (bI hH ht y) hc.2;have hl:=eZ _ _ ry;obtain ⟨p',arr,t',g1,g2,g3,g4,g5,g6,g7,g8,g9,g10⟩:=hh.obj id _ _ hg hm;rw [hm] at g1;injection g1 with g1
  subst g1;have eR:=HS ry hc.2;have de:=run_storeCells_at O.P p.b (p.o+k) t' (a.eval y).cells.toList 0 arr w g2 (by rw [hl];omega) eR;simp only [yX] at de;have akQ:(a.eval y).cells.size=sz:=by simp_all
  have lZ:dX O m S (w.setRow p.b (arr.toList.take (p.o+k)++(a.eval y).cells.toList++arr.toList.drop (p.o+k+(a.eval y).cells.toList.length)).toArray) id
    (.cells true (pu&&aC (cellsOf (ao tm (aH H y)))) Ko z (over k (cellsOf (ao tm (aH H y))) cs)):=by
   refine ⟨p,_,t',hm,setRow_heap w p.b arr _ t' _ g2,g3,by rw [Ia (by omega)];exact g4,?_,fun h=>by rw [Ia (by omega)];exact g6 h,?_,?_,fun _=>g9 rfl,by simp⟩
   ·grind
   ·exact SJ g2 g7 ry (by omega) (by omega) cJ.refl (fun _ h=>h) (fun b hb=>setRow_other w p.b b _ (fun e=>g9 rfl (e▸hb))) (setRow_heap w p.b arr _ t' _ g2)
   ·intro h;simp only [yf] at h;exact Q3 (g8 h.1) h.2
  obtain ⟨e1,e2⟩:=Eo hh hg hm (g9 rfl) (Lp w p.b _) lZ (fun r hr=>by rw [g2] at hr;cases hr);refine ⟨.skip,undef,_,m,S,?_,.inr ⟨rfl,rfl⟩,e1,by simp [ae,au,undef],cJ.refl,e2⟩;simp only [execOp,ho,Instr.storeAt,ex,Instr.sureAddr,Sem.run_bind,Sem.run_pure,Result.andThen_ok,storeVar,li hz,akQ,ne_eq,ybo,y8];simp [de]
def Bs (w:yh) (g:Nat) (o:yaB):One w {w with heap:=w.heap.setIfInBounds g o} g:=
 ⟨rfl,rfl,rfl,by simp,fun b hb=>by simp [Array.getElem?_setIfInBounds_ne (fun e=>hb e.symm)]⟩
def HC {g:Nat} {o q:yaB} (h:w.heap[g]? =some q):({w with heap:=w.heap.setIfInBounds g o}:yh).heap[g]? =some o:=by grind
def SK {o:yL} {t kt e:yq} {x k y:xe} {kk:Nat} {v:AV} {an:Hp} {aT:Nat} (hH:dZ O H) (ht:bH O m S w tm a.tmps) (hh:aQ O m S w hp ct)
  (ho:o.op= .mapUpdate t x k y\/o.op= .insert t x k y) (hu:O.P.underlying t=some (.map kt e)) (nR:VE.keyOf O.P kt=some kk) (hv:bT tm hp ct (.mS kk (aH H x) (aH H k) (aH H y))=some (v,an,aT)):pV O m S w a hp ct o v an aT:=by
 simp only [bT] at hv;have rx:=bI hH ht x;cases hx:ao tm (aH H x)<;>rw [hx] at hv rx<;>simp only [reduceCtorEq] at hv
 rename_i id;simp only [ae] at rx;obtain ⟨p,hm,ex⟩:=rx
 split at hv
 case h_2=>cases hv
 rename_i ks vs hg
 cases hc:lz kk (ao tm (aH H k)) with
 | false=>simp [hc] at hv
 | true=>
  simp only [hc,Bool.not_true,yI] at hv
  cases bi:qd (ao tm (aH H k)) (ao tm (aH H y)) ks vs with
  | none=>simp [bi] at hv
  | some q=>
   obtain ⟨iS,dA⟩:=q;simp only [bi,yb,yk] at hv;obtain ⟨rfl,rfl,rfl⟩:=hv;obtain ⟨E,hE,hF⟩:=Q0 (P:=O.P) nR hc (bI hH ht k);obtain ⟨p',es,clock,g1,g2,g3,g4,g5,g6⟩:=hh.obj id _ _ hg hm;rw [hm] at g1;injection g1 with g1
   subst g1;have ami:=TK hE (bI hH ht k) (bI hH ht y) ks vs es.toList 0 iS dA g3 g4 bi
   have fin:∀(A0:Array MapEntry) (c':Nat),(Instr.mapUpdate t (a.eval x) (a.eval k) (a.eval y)).run O.P w= .ok () {w with heap:=w.heap.setIfInBounds p.b (.map A0 c')}->
     au O.ab m S w iS (A0.toList.map (·.key))->au O.ab m S w dA (A0.toList.map (·.val))->pV O m S w a hp ct o (.av []) (a6 hp id (.mp true iS dA)) ct:=by
    intro A0 c' de h1 h2
    have aP:eF S w {w with heap:=w.heap.setIfInBounds p.b (.map A0 c')}:=fun b hb=>(Bs w p.b _).other b (fun e=>g5 rfl (e▸hb))
    have lZ:dX O m S {w with heap:=w.heap.setIfInBounds p.b (.map A0 c')} id (.mp true iS dA):=
     ⟨p,A0,c',hm,HC g2,fu (fun _ _ h=>h) (fun _ h=>h) aP _ _ h1,fu (fun _ _ h=>h) (fun _ h=>h) aP _ _ h2,fun _=>g5 rfl,by simp⟩
    obtain ⟨e1,e2⟩:=Eo hh hg hm (g5 rfl) (Bs w p.b _) lZ (fun r hr=>by rw [g2] at hr;cases hr);refine ⟨.skip,undef,_,m,S,?_,.inr ⟨rfl,rfl⟩,e1,by simp [ae,au,undef],cJ.refl,e2⟩;rcases ho with ho | ho<;>simp [execOp,ho,de]
   have ic:=QB (P:=O.P) (w:=w) nR hc (bI hH ht k) false;rcases ami with ⟨h1,h2,h3⟩ | ⟨j,e0,vc,XX,h1,h2,⟨q1,q2,h3⟩,h4,h5⟩
   ·refine fin (es.push ⟨a.eval k,a.eval y,clock⟩) (clock+1) ?_ (by simpa using h2) (by simpa using h3);rw [ex];simp [Instr.mapUpdate,run_underlying hu,MapKept.run_getObj_map g2,ic,hF _ _ h1,MapKept.run_setObj_map _ g2]
   ·have hj:es[j]? =some e0:=by simpa using h2
    simp only [yj] at h1;obtain ⟨Wt,hsb⟩:=adv q1 q2 h3
    refine fin (es.modify j fun e=>{e with key:=a.eval k,val:=a.eval y}) clock ?_ ?_ ?_
    ·rw [ex];simp [Instr.mapUpdate,run_underlying hu,MapKept.run_getObj_map g2,ic,hF _ _ h1,MapKept.run_setObj_map _ g2,hj,Instr.keyThatStays,hsb,Wt.symm]
    ·have:(es.modify j fun e=>{e with key:=a.eval k,val:=a.eval y}).toList.map (·.key)=es.toList.map (·.key):=by
      apply tL;intro n;simp only [uk,vN,ta];by_cases hn:j=n
      ·subst hn;simp [hj,Wt]
      ·simp [hn]
     rw [this];exact h4
    ·have:(es.modify j fun e=>{e with key:=a.eval k,val:=a.eval y}).toList.map (·.val)=(es.toList.map (·.val)).set j (a.eval y):=by
      apply tL;intro n;simp only [uk,vN,ta,List.getElem?_set];by_cases hn:j=n
      ·subst hn
       have:=(xg.1 hj).1
       simp [this]
      ·simp [hn]
     rw [this];exact h5
def afE (t:ByteArray) (i:Nat):(t.get! i).toNat=(t.data.toList.map yZ).getD i 0:=by
 have:t.get! i=t.data[i]! :=by cases t;rfl
 rw [this];by_cases h:i<t.data.size
 ·grind
 ·simp only [Array.getElem!_eq_getD,Array.getD_eq_getD_getElem?,List.getD_eq_getElem?_getD,uk,vN];rw [Array.getElem?_eq_none (by omega)];rfl
def abI (t:ByteArray) (i:Nat):decodeL (t.data.toList.map yZ) i=Utf8.decode t i:=by
 have dM:(t.data.toList.map yZ).length=t.size:=by simp
 simp only [decodeL,Utf8.decode,afE,dM]
def adC {o:yL} {x:xe} {v:AV} {an:Hp} {aT:Nat} (hH:dZ O H) (ht:bH O m S w tm a.tmps) (hh:aQ O m S w hp ct)
  (ho:o.op= .next x true) (hv:bT tm hp ct (.mU (aH H x))=some (v,an,aT)):pV O m S w a hp ct o v an aT:=by
 simp only [bT] at hv;have rx:=bI hH ht x;cases hx:ao tm (aH H x)<;>rw [hx] at hv rx<;>simp only [reduceCtorEq] at hv
 rename_i id;simp only [ae] at rx;obtain ⟨p,hm,ex⟩:=rx
 split at hv
 case h_2=>cases hv
 rename_i s pos hg;obtain ⟨p',t,g1,g2,g3,g4⟩:=hh.obj id _ _ hg hm;rw [hm] at g1;injection g1 with g1
 subst g1;have ap:(getObj p.b).run O.P w= .ok (.stringIter t pos) w:=by simp [getObj,Sem.run,g2]
 have hlen:s.length=t.size:=by rw [<-g3];simp
 cases hc:yF pos s.length with
 | false=>
  rw [hc] at hv;simp only [yI,yb,yk] at hv;obtain ⟨rfl,rfl,rfl⟩:=hv;have aO:¬pos<t.size:=by
   intro h
   have:yF pos s.length=true:=by simp [yF];omega
   grind
  refine ⟨.value (.tuple #[.bool false]),.tuple #[.bool false],w,m,S,?_,.inl rfl,hh,by simp [ae,au],cJ.refl,bM.refl⟩;simp [execOp,ho,ex,Instr.next,ap,aO]
 | true=>
  rw [hc] at hv;simp only [yp] at hv;have aO:pos<t.size:=by
   simp_all
  cases X5:decodeL s pos with | mk c wd=>
  rw [X5] at hv;simp only [yb,yk] at hv;obtain ⟨rfl,rfl,rfl⟩:=hv;have hd:Utf8.decode t pos=(c,wd):=by rw [<-abI,g3,X5]
  have lZ:dX O m S {w with heap:=w.heap.setIfInBounds p.b (.stringIter t (pos+wd))} id (.si s (pos+wd)):=⟨p,t,hm,HC g2,g3,g4⟩;obtain ⟨e1,e2⟩:=Eo hh hg hm g4 (Bs w p.b _) lZ (fun r hr=>by rw [g2] at hr;cases hr);refine ⟨.value (.tuple #[.bool true,goInt pos,.int .i32 c]),_,_,m,S,?_,.inl rfl,e1,by simp [ae,au,goInt],cJ.refl,e2⟩
  have a6:(setObj p.b (.stringIter t (pos+wd))).run O.P w= .ok () {w with heap:=w.heap.setIfInBounds p.b (.stringIter t (pos+wd))}:=by simp [setObj,Sem.run,g2]
  simp [execOp,ho,ex,Instr.next,ap,aO,hd,a6]
end
end
section
open Go
def Ef {hp:Hp} {id i:Nat}:ap (dc hp id) i=if id=i then none else ap hp i:=by
 induction hp with
 | nil=>simp [dc,ap]
 | cons x r ih=>
  obtain ⟨j,q⟩:=x;simp only [dc];by_cases hj:j=id
  ·subst hj;simp only [wI,yp,ih,ap];by_cases hi:j=i
   ·grind
   ·have:ym j i=false:=by
     cases hq:ym j i with
     | false=>rfl
     | true=>exact absurd (yi hq) hi
    grind
  ·have hb:ym j id=false:=by
    cases hq:ym j id with
    | false=>rfl
    | true=>exact absurd (yi hq) hj
   simp only [hb,yI];rw [show ap ((j,q)::dc r id) i=bif ym j i then some q else ap (dc r id) i from rfl,ih];by_cases hi:j=i
   ·subst hi
    have:¬id=j:=fun h=>hj h.symm
    simp [wI,this,ap]
   ·have oX:ym j i=false:=by
     cases hq:ym j i with
     | false=>rfl
     | true=>exact absurd (yi hq) hi
    simp [oX,ap]
section
variable {O:bh} {H:Hint} {m:Mp} {S:Nat->Prop} {w:yh} {tm:Env} {a:Act} {hp:Hp} {ct:Nat}
def Src (P:yK) (w:yh) (size n:Nat) (news:List yg) (x:yg):Prop:=
 (∀w',(Builtin.lenOf x).run P w'= .ok n w')/\news.length=n*size/\
 ∀w',w'.heap=w.heap->∀k,k<=n->(Builtin.firstCells size k x).run P w'= .ok (news.take (k*size)).toArray w'
def Bw {P:yK} {size n c:Nat} {b:Addr} {news:List yg} (hl:news.length=n*size) (hc:∀j u,news[j]? =some u->w.cell? (b.add j)=some u):
  Src P w size n news (.slice (some b) n c):=by
 refine ⟨fun w'=>by simp [Builtin.lenOf],hl,fun w' hw k hk=>?_⟩;have hle:k*size<=news.length:=by rw [hl];exact yS _ hk
 refine run_firstCells_some (P:=P) w' size k b n c (news.take (k*size)) (by rw [yQ];omega) (fun j v hv=>?_);rw [List.getElem?_take] at hv
 split at hv
 ·have:=hc j v hv
  simpa [World.cell?,hw] using this
 ·cases hv
def TO {P:yK} {size:Nat}:Src P w size 0 [] (.slice none 0 0):=
 ⟨fun w'=>by simp [Builtin.lenOf],by simp,fun w' _ k hk=>by simp [Builtin.firstCells]⟩
def aaM (s:ByteArray) (k:Nat):(s.extract 0 k).data.map (fun b=>Value.int .u8 b.toNat)=((s.data.toList.map fun b=>Value.int .u8 (b.toNat:Int)).take k).toArray:=by
 have:(s.extract 0 k).data=s.data.extract 0 k:=by simp
 grind
def afF {P:yK} {s:ByteArray}:Src P w 1 s.size (s.data.toList.map fun b=>Value.int .u8 (b.toNat:Int)) (.string s):=by
 refine ⟨fun w'=>by simp [Builtin.lenOf],by simp,fun w' _ k hk=>?_⟩;simp only [Builtin.firstCells,Sem.run_pure,Nat.mul_one];rw [aaM]
def QC {ab:Nat->Nat}:∀l:List UInt8,au ab m S w (Iu (l.map yZ)) (l.map fun b=>Value.int .u8 (b.toNat:Int))
 | []=>by simp [Iu,au]
 | b::r=>by
  exact ⟨_,_,rfl,by simp [ae],QC r⟩
def Q4 {size n:Nat} {vx:AV} {x:yg} {cs:List AV} (hh:aQ O m S w hp ct) (hx:ae O.ab m S w vx x) (h:jt hp size vx=some (n,cs)):
  ∃us,au O.ab m S w cs us/\Src O.P w size n us x:=by
 cases vx<;>simp only [jt,reduceCtorEq] at h
 case af=>
  obtain ⟨rfl,rfl⟩:=h;subst hx;exact ⟨[],by simp [au],TO⟩
 case aq ex n' b8=>
  cases hc:ym b8.length (n'*size) with
  | false=>rw [hc] at h;cases h
  | true=>
   rw [hc] at h;obtain ⟨rfl,rfl⟩:=h;have hl:=yi hc;rcases hx with ⟨b,o,c,rfl,h1,h2,h3,h4,h5⟩ | ⟨ad,rfl,rfl,rfl⟩
   ·obtain ⟨us,g1,g2,g3⟩:=nZ _ b o h5;exact ⟨us,g1,Bw (by omega) (fun j u hj=>by rw [lD];exact g3 j u hj)⟩
   ·exact ⟨[],by simp [au],Bw (by simp) (fun j u hj=>by simp at hj)⟩
 case ay id o n'=>
  cases hg:ap hp id with
  | none=>simp [hg] at h
  | some ob=>
   cases ob<;>simp only [hg,reduceCtorEq] at h
   rename_i rw pu ex z b8
   cases hc:yx (o+n'*size) b8.length with
   | false=>rw [hc] at h;cases h
   | true=>
    rw [hc] at h;simp only [yp,yb,yk] at h;obtain ⟨rfl,rfl⟩:=h;have hl:=yr hc;obtain ⟨p,c,hm,rfl,h1,h2⟩:=hx;have hr:=LZ (o:=0) (n:=0) hh hg hm;have kw:=rz (n'*size) _ _ _ (ns o _ _ _ hr);obtain ⟨us,g1,g2,g3⟩:=nZ _ p.b (p.o+o) kw;refine ⟨us,g1,Bw ?_ (fun j u hj=>by rw [lD];exact g3 j u hj)⟩
    grind
def RY {size n:Nat} {vx:AV} {x:yg} {cs:List AV} (hh:aQ O m S w hp ct) (hx:ae O.ab m S w vx x) (h:fW hp size vx=some (n,cs)):
  ∃us,au O.ab m S w cs us/\Src O.P w size n us x:=by
 cases vx<;>try exact Q4 hh hx h
 simp only [fW] at h
 cases hc:ym size 1 with
 | false=>rw [hc] at h;cases h
 | true=>
  rw [hc] at h;obtain ⟨rfl,rfl⟩:=h
  have:=yi hc
  subst this;obtain ⟨t,rfl,rfl⟩:=hx;refine ⟨_,QC _,?_⟩
  have:(List.map yZ t.data.toList).length=t.size:=by simp
  rw [this];exact afF
def Z0 {P:yK} {t u ty e:yq} {i:ybp} (ht:P.underlying t=some (.slice e)) (hu:(∃e',P.underlying u=some (.slice e'))\/P.underlying u=some .string) (hi:P.info? e=some i)
  {g o fY nJ:Nat} {GA:Array yg} {te:yq} (hg:w.heap[g]? =some (.cells GA te (0,0))) {x:yg} {n:Nat} {news:List yg} (hs:Src P w i.size n news x) (h1:∀u∈news,u.oneCell'=true)
  (B2:fY+n<=nJ) (NM:o+fY*i.size+news.length<=GA.size):
  (Builtin.append_ #[t,u] ty #[.slice (some ⟨g,o,none⟩) fY nJ,x]).run P w=
   .ok (.slice (some ⟨g,o,none⟩) (fY+n) nJ) (w.setRow g (GA.toList.take (o+fY*i.size)++news++GA.toList.drop (o+fY*i.size+news.length)).toArray):=by
 obtain ⟨kT,qU,O4⟩:=hs;have hf:=O4 w rfl n (yv _);rw [yD (by omega)] at hf;have aP:=run_storeCells_at P g (o+fY*i.size) te news 0 GA w hg (by omega) h1;rcases hu with ⟨e',hd⟩ | hd<;>
  simp [Builtin.append_,run_underlying ht,run_underlying hd,vD,typeInfo,hi,kT,B2,hf,lD,aP]
def Hu {P:yK} {t u ty e:yq} {i:ybp} {z:yg} (ht:P.underlying t=some (.slice e)) (hu:(∃e',P.underlying u=some (.slice e'))\/P.underlying u=some .string) (hi:P.info? e=some i) (hz:i.zero=some z)
  {s:yg} {base:Option Addr} {fY nJ:Nat} (es:s= .slice base fY nJ) {jG:List yg} (ho:Src P w i.size fY jG s) {x:yg} {n:Nat} {news:List yg} (hs:Src P w i.size n news x)
  (hg:nJ<fY+n) (X6:fY+n<=1099511627776) (O3:(fY+n)*i.bytes<=1099511627776):
  (Builtin.append_ #[t,u] ty #[s,x]).run P w=
   .ok (.slice (some ⟨w.heap.size,0,none⟩) (fY+n) (grownCap w (fY+n) nJ e))
    (w.drew.alloc (.cells ((jG++news).toArray++Builtin.zeroCells z.cells (grownCap w (fY+n) nJ e-(fY+n))) e)):=by
 obtain ⟨kT,qU,O4⟩:=hs;obtain ⟨ho1,O5,ho3⟩:=ho;have hf:=O4 w.drew rfl n (yv _);rw [yD (by omega)] at hf;have X7:=ho3 w.drew rfl fY (yv _);have hn:¬(fY+n<=nJ):=by omega
 have amj:¬(9223372036854775807<((fY:Int)+(n:Int))):=by omega
 have NM:=growslice_fits (need:=fY+n) (old:=nJ) (bytes:=i.bytes) hg (by omega);have amk:¬(281474976710656<Builtin.nextslicecap (fY+n) nJ*i.bytes):=by omega
 subst es;rcases hu with ⟨e',hd⟩ | hd
 all_goals
  simp [Builtin.append_,run_underlying ht,run_underlying hd,vD,typeInfo,zeroValue,hi,hz,kT,hn,amj,amk,Question.forced,hf,X7,newRow,askRoom,grownCap]
  grind
def LH {e:yq} {z:yg} {sz need cap:Nat} {cs:List AV} {us:List yg} (hh:aQ O m S w hp ct) (hr:au O.ab m S w cs us) (hl:us.length=need*sz) (hz:z.cells.size=sz)
  (Ap:Bool) (O6:Ap=true->aC cs=true) (hc:need<=cap):
  let w':=w.drew.alloc (.cells (us.toArray++Builtin.zeroCells z.cells (cap-need)) e)
  let p:Pl:=⟨w.heap.size,0,cap*sz,sz⟩
  ∀m',cJ m m'->m' ct=some p->dX O m' S w' ct (.cells true Ap false sz cs):=by
 intro w' p m' hm hi;have aP:eF S w w':=fun b hb=>by
  have:=hh.slt b hb
  exact RowKit.Below.heap_alloc w.drew _ b (by simpa using this)
 have gM:w'.heap[w.heap.size]? =some (.cells (us.toArray++Builtin.zeroCells z.cells (cap-need)) e (0,0)):=heap_alloc_new w.drew _;have dR:=eZ _ _ hr;refine ⟨p,_,e,hi,gM,rfl,?_,?_,by simp,?_,O6,?_,by simp⟩
 ·show cs.length<=cap*sz
  rw [<-dR,hl];exact yS _ hc
 ·show 0+cap*sz<=_
  rw [Array.size_append,vO,size_zeroCells,hz,hl,<-xZ]
  grind
 ·refine HR gM cs us 0 (fu hm (fun _ h=>h) aP _ _ hr) (fun j u hj=>?_)
  grind
 ·intro _ hS
  have:=hh.slt _ hS
  grind
def ZN (hh:aQ O m S w hp ct) (g:yaB):eF S w (w.drew.alloc g):=fun b hb=>by
 have:=hh.slt b hb
 exact RowKit.Below.heap_alloc w.drew _ b (by simpa using this)
def LI (hh:aQ O m S w hp ct) {hp0:Hp} {g:yaB} {p:Pl} {o:Obj} (Jq:∀i q,ap hp0 i=some q->ap hp i=some q) (hb:p.b=w.heap.size)
  (ho:∀m',cJ m m'->m' ct=some p->dX O m' S (w.drew.alloc g) ct o):
  aQ O (ew m ct p) S (w.drew.alloc g) ((ct,o)::hp0) (ct+1)/\bM m S w hp (ew m ct p) S (w.drew.alloc g) ((ct,o)::hp0) ct:=by
 have hn:m ct=none:=by
  cases h:m ct with
  | none=>rfl
  | some q=>have:=hh.lt _ _ h;omega
 have hle:=gB hn (p:=p);have aP:=ZN hh g;have hold:∀b,b<w.heap.size->(w.drew.alloc g).heap[b]? =w.heap[b]? :=fun b hb=>RowKit.Below.heap_alloc w.drew _ b (by simpa using hb)
 have dM:(w.drew.alloc g).heap.size=w.heap.size+1:=by simp
 have fT:∀i q,ap ((ct,o)::hp0) i=some q->i≠ct->ap hp i=some q:=fun i q h hi=>by
  rw [ep,yE (fun e=>hi e.symm)] at h
  grind
 refine ⟨⟨?_,?_,?_,?_,?_,?_,?_,?_,fun i q hq=>(by
  by_cases hc:i=ct
  ·omega
  ·have:=hh.aO _ _ (fT i q hq hc);omega)⟩,⟨rfl,rfl,rfl,by omega,?_,fun _ h=>h,fun b hb=>aP b hb,fun b hb=> .inl hb,?_,fun i q _ h=>hle i q h,fun b r hb=>⟨r,(hold b (xg.1 hb).1).trans hb⟩⟩⟩
 ·intro i q pi hi br;by_cases hc:i=ct
  ·subst hc;rw [ep] at hi;simp only [xm,yb] at hi;subst hi;exact ho _ hle cV
  ·rw [dD hc] at br;exact n7 hle (fun _ h=>h) aP (fun q' bB=>hold _ (hh.blt i q' bB)) (fun _ _ h=>h) (hh.obj i q pi (fT i q hi hc) br)
 ·intro i q br;by_cases hc:i=ct
  ·omega
  ·rw [dD hc] at br;have:=hh.lt i q br;omega
 ·intro i j oi oj pi pj hi hj br eV e;by_cases ci:i=ct
  ·by_cases cj:j=ct
   ·grind
   ·subst ci;rw [cV] at br;rw [dD cj] at eV;injection br with br
    subst br
    have:=hh.blt j pj eV
    omega
  ·rw [dD ci] at br;by_cases cj:j=ct
   ·subst cj;rw [cV] at eV;injection eV with eV
    subst eV
    have:=hh.blt i pi br
    omega
   ·rw [dD cj] at eV;exact hh.inj i j oi oj pi pj (fT i oi hi ci) (fT j oj hj cj) br eV e
 ·intro b hb;have:=hh.slt b hb;omega
 ·intro i q br;by_cases hc:i=ct
  ·subst hc;rw [cV] at br;injection br with br
   subst br;omega
  ·rw [dD hc] at br;have:=hh.blt i q br;omega
 ·intro i q br;have h0:=hh.eK;by_cases hc:i=ct
  ·subst hc;rw [cV] at br;injection br with br
   subst br;omega
  ·rw [dD hc] at br;exact hh.low i q br
 ·intro b hb;have h0:=hh.eK;exact (hold b (by omega)).trans (hh.jF b hb)
 ·have h0:=hh.eK;omega
 ·intro b hb _;exact hold b hb
 ·rintro b ⟨i,q,pi,h1,h2,h3⟩;by_cases hc:i=ct
  ·subst hc;rw [cV] at h2;injection h2 with h2
   subst h2;exact .inr (by omega)
  ·rw [dD hc] at h2;exact .inl ⟨i,q,pi,fT i q h1 hc,h2,h3⟩
def abJ (hh:aQ O m S w hp ct) {id:Nat} {o o':Obj} {p p':Pl} {w':yh} (hg:ap hp id=some o) (hm:m id=some p) (hn:¬S p.b) (hw:One w w' p.b) (hk:∀r:vX,w.heap[p.b]? =some (.loop r)->∃r':vX,w'.heap[p.b]? =some (.loop r')) (hb:p'.b=p.b)
  (ho:∀m',cJ m m'->m' ct=some p'->dX O m' S w' ct o'):
  aQ O (ew m ct p') S w' ((ct,o')::dc hp id) (ct+1)/\bM m S w hp (ew m ct p') S w' ((ct,o')::dc hp id) ct:=by
 have kv:m ct=none:=by
  cases h:m ct with
  | none=>rfl
  | some q=>have:=hh.lt _ _ h;omega
 have hle:=gB kv (p:=p');have aP:eF S w w':=fun b hb=>hw.other b (fun e=>hn (e▸hb))
 have fT:∀i q,ap ((ct,o')::dc hp id) i=some q->i≠ct->ap hp i=some q/\i≠id:=fun i q h hi=>by
  rw [ep,yE (fun e=>hi e.symm),Ef] at h
  grind
 have Wu:∀i q pi,ap hp i=some q->i≠id->m i=some pi->pi.b≠p.b:=fun i q pi h hi br e=>hi (hh.inj i id q o pi p h hg br hm e)
 refine ⟨⟨?_,?_,?_,?_,?_,?_,?_,?_,fun i q hq=>(by
  by_cases hc:i=ct
  ·omega
  ·have:=hh.aO _ _ (fT i q hq hc).1;omega)⟩,⟨hw.os,hw.tape,hw.output,by rw [hw.size];exact yv _,?_,fun _ h=>h,fun b hb=>aP b hb,fun b hb=> .inl hb,?_,fun i q _ h=>hle i q h,fun b r hb=>(by
  by_cases hc:b=p.b
  ·grind
  ·exact ⟨r,(hw.other b hc).trans hb⟩)⟩⟩
 ·intro i q pi hi br;by_cases hc:i=ct
  ·subst hc;rw [ep] at hi;simp only [xm,yb] at hi;subst hi;exact ho _ hle cV
  ·rw [dD hc] at br;obtain ⟨h1,h2⟩:=fT i q hi hc;exact n7 hle (fun _ h=>h) aP (fun q' bB=>hw.other _ (Wu i q q' h1 h2 bB)) (fun _ _ h=>h) (hh.obj i q pi h1 br)
 ·intro i q br;by_cases hc:i=ct
  ·omega
  ·rw [dD hc] at br;have:=hh.lt i q br;omega
 ·intro i j oi oj pi pj hi hj br eV e;by_cases ci:i=ct
  ·by_cases cj:j=ct
   ·grind
   ·subst ci;rw [cV] at br;rw [dD cj] at eV
    grind
  ·rw [dD ci] at br;obtain ⟨h1,h2⟩:=fT i oi hi ci;by_cases cj:j=ct
   ·subst cj;rw [cV] at eV;injection eV with eV
    subst eV;exact (Wu i oi pi h1 h2 br (by rw [e,hb])).elim
   ·rw [dD cj] at eV;exact hh.inj i j oi oj pi pj h1 (fT j oj hj cj).1 br eV e
 ·intro b hb;rw [hw.size];exact hh.slt b hb
 ·intro i q br;rw [hw.size];by_cases hc:i=ct
  ·subst hc;rw [cV] at br;injection br with br
   subst br;rw [hb];exact hh.blt id p hm
  ·rw [dD hc] at br;exact hh.blt i q br
 ·intro i q br;by_cases hc:i=ct
  ·subst hc;rw [cV] at br;injection br with br
   subst br;rw [hb];exact hh.low id p hm
  ·rw [dD hc] at br;exact hh.low i q br
 ·intro b hb
  rw [hw.other b (fun e=>by have:=hh.low id p hm;omega)];exact hh.jF b hb
 ·rw [hw.size];exact hh.eK
 ·intro b _ bK;exact hw.other b (fun e=>bK (e▸EL hg hm))
 ·rintro b ⟨i,q,pi,h1,h2,h3⟩;by_cases hc:i=ct
  ·subst hc;rw [cV] at h2;injection h2 with h2
   subst h2;exact .inl ⟨id,o,p,hg,hm,by rw [<-h3,hb]⟩
  ·rw [dD hc] at h2;exact .inl ⟨i,q,pi,(fT i q h1 hc).1,h2,h3⟩
def TP {P:yK} {e:yq} {s by':Nat} {z:AV} (hs:bX P e=some s) (hb:oQ P e=some by') (hz:jz P e=some z):
  ∃ti zv,P.info? e=some ti/\ti.size=s/\ti.bytes=by'/\ti.zero=some zv/\z=dP zv:=by
 unfold bX at hs;unfold oQ at hb;unfold jz at hz
 cases hi:P.info? e with
 | none=>simp [hi] at hs
 | some ti=>
  simp only [hi,yb] at hs hb hz
  cases fF:ti.zero with
  | none=>simp [fF] at hz
  | some zv=>
   grind
def Ep {o:yL} {v:AV} {u:yg} {w':yh} {m':Mp} {S':Nat->Prop} {an:Hp} {aT:Nat} (h1:(execOp a.eval o).run O.P w= .ok (.value u) w') (h2:aQ O m' S' w' an aT) (h3:ae O.ab m' S' w' v u)
  (h4:cJ m m') (h5:bM m S w hp m' S' w' an ct):pV O m S w a hp ct o v an aT:=⟨_,u,w',m',S',h1,.inl rfl,h2,h3,h4,h5⟩
def adD {o:yL} {b':yq} {t u e:yq} {sz by':Nat} {z:AV} {x y:xe} {v:AV} {an:Hp} {aT:Nat} (hH:dZ O H) (ht:bH O m S w tm a.tmps) (hh:aQ O m S w hp ct)
  (de:(execOp a.eval o).run O.P w=((do pure (.value (<-Builtin.append_ #[t,u] b' #[a.eval x,a.eval y])):Sem tK)).run O.P w)
  (oZ:O.P.underlying t=some (.slice e)) (hu:(∃e',O.P.underlying u=some (.slice e'))\/O.P.underlying u=some .string) (hs:bX O.P e=some sz) (hb:oQ O.P e=some by') (hz:jz O.P e=some z) (nS:(cellsOf z).length=sz)
  (hv:bT tm hp ct (.cD sz by' (aH H x) (aH H y))=some (v,an,aT)):pV O m S w a hp ct o v an aT:=by
 simp only [bT] at hv;obtain ⟨ti,zv,nT,rfl,rfl,GB,rfl⟩:=TP hs hb hz;have aI:∀u' w',(Builtin.append_ #[t,u] b' #[a.eval x,a.eval y]).run O.P w= .ok u' w'->(execOp a.eval o).run O.P w= .ok (.value u') w':=fun u' w' h=>by
  rw [de,Sem.run_bind,h];rfl
 have oA:m ct=none:=by
  cases h:m ct with
  | none=>rfl
  | some q=>have:=hh.lt _ _ h;omega
 have AZ:zv.cells.size=ti.size:=by
  have:=eZ _ _ (zG (ab:=O.ab) (m:=m) (S:=S) (w:=w) zv)
  rw [<-nS,<-this];simp
 cases nK:fW hp ti.size (ao tm (aH H y)) with
 | none=>simp [nK] at hv
 | some q=>
  obtain ⟨n,new⟩:=q;simp only [nK] at hv;obtain ⟨news,jN,da⟩:=RY hh (bI hH ht y) nK;have GC:=eZ _ _ jN;have rx:=bI hH ht x
  cases hx:ao tm (aH H x) with
  | af=>
   rw [hx] at hv rx;simp only at hv;simp only [ae] at rx
   cases h0:ym n 0 with
   | true=>
    rw [h0] at hv;simp only [yp,yb,yk] at hv;obtain ⟨rfl,rfl,rfl⟩:=hv;have sX:=yi h0;subst sX;have Nk:news=[]:=yA (by rw [da.2.1];simp)
    subst Nk;have hf:=da.2.2 w rfl 0 (yv _);have iT:=da.1 w;refine ⟨.value (.slice none 0 0),.slice none 0 0,w,m,S,?_,.inl rfl,hh,by simp [ae],cJ.refl,bM.refl⟩;rw [de,rx];rcases hu with ⟨e',hu⟩ | hu<;>
     simp [Builtin.append_,run_underlying oZ,run_underlying hu,vD,typeInfo,nT,iT,hf]
   | false=>
    rw [h0] at hv;simp only [yI] at hv
    cases hc:(yx n room&&(yx (n*ti.bytes) room&&yF 0 ti.size)) with
    | false=>rw [hc] at hv;cases hv
    | true=>
     rw [hc] at hv;simp only [yp,yb,yk] at hv;obtain ⟨rfl,rfl,rfl⟩:=hv;simp only [yf] at hc;have c1:=yr hc.1;have c2:=yr hc.2.1;simp only [room] at c1 c2;have sX:0<n:=by
      rcases xj n with h | h
      ·subst h;simp at h0
      ·exact h
     have hr:=Hu (P:=O.P) (ty:=b') (w:=w) oZ hu nT GB (s:= .slice none 0 0) rfl (TO (P:=O.P) (size:=ti.size)) da (by omega) (by omega) (by simpa using c2);simp only [yj,List.nil_append] at hr;have iB:=grownCap_ge w n 0 e;have gM:=LH (e:=e) (z:=zv) (cap:=grownCap w n 0 e) hh jN (need:=n) (sz:=ti.size) da.2.1 AZ (aC new) (fun h=>h) iB;obtain ⟨k1,k2⟩:=LI hh (hp0:=hp) (p:=⟨w.heap.size,0,grownCap w n 0 e*ti.size,ti.size⟩) (fun _ _ h=>h) rfl gM;exact Ep (aI _ _ (by rw [rx];exact hr)) k1 (by simp only [ae];exact ⟨_,_,cV,rfl,iB,by simp⟩) (gB oA) k2
  | aq ex k cs=>
   rw [hx] at hv rx
   cases ex with
   | false=>simp at hv
   | true=>
    simp only at hv;have rx0:=rx;simp only [ae] at rx;have rx1:∃ad jG,a.eval x= .slice (some ad) k k/\au O.ab m S w cs jG/\jG.length=cs.length/\(∀(j:Nat) (u:yg),jG[j]? =some u->w.cell? (ad.add j)=some u)/\aC cs=true:=by
     rcases rx with ⟨bb,oo,c,ex,h1,h2,h3,h4,h5⟩ | ⟨ad,ex,rfl,rfl⟩
     ·have ic:c=k:=h2 (by trivial);subst ic;obtain ⟨jG,g1,g2,g3⟩:=nZ cs bb oo h5;exact ⟨_,jG,ex,g1,g2,fun j u hj=>by rw [lD];exact g3 j u hj,h4⟩
     ·exact ⟨ad,[],ex,by simp [au],rfl,fun j u hj=>by simp at hj,rfl⟩
    obtain ⟨ad,jG,ex,g1,g2,g3,h4⟩:=rx1
    cases h0:ym n 0 with
    | true=>
     rw [h0] at hv;simp only [yp,yb,yk] at hv;obtain ⟨rfl,rfl,rfl⟩:=hv;have sX:=yi h0;subst sX;have Nk:news=[]:=yA (by rw [da.2.1];simp)
     subst Nk;have hf:=da.2.2 w rfl 0 (yv _);have iT:=da.1 w;refine ⟨.value (a.eval x),a.eval x,w,m,S,?_,.inl rfl,hh,rx0,cJ.refl,bM.refl⟩;rw [de,ex];rcases hu with ⟨e',hu⟩ | hu<;>
      simp [Builtin.append_,run_underlying oZ,run_underlying hu,vD,typeInfo,nT,iT,hf,storeCells]
    | false=>
     rw [h0] at hv;simp only [yI] at hv
     cases hc:(yx (k+n) room&&(yx ((k+n)*ti.bytes) room&&(ym cs.length (k*ti.size)&&yF 0 ti.size))) with
     | false=>rw [hc] at hv;cases hv
     | true=>
      rw [hc] at hv;simp only [yp,yb,yk] at hv;obtain ⟨rfl,rfl,rfl⟩:=hv;simp only [yf] at hc;have c1:=yr hc.1;have c2:=yr hc.2.1;have c3:=yi hc.2.2.1;simp only [room] at c1 c2;have sX:0<n:=by
       rcases xj n with h | h
       ·subst h;simp at h0
       ·exact h
      have GD:Src O.P w ti.size k jG (.slice (some ad) k k):=Bw (by omega) g3;have hr:=Hu (P:=O.P) (ty:=b') (w:=w) oZ hu nT GB rfl GD da (by omega) c1 c2;have iB:=grownCap_ge w (k+n) k e;have gM:=LH (e:=e) (z:=zv) (cap:=grownCap w (k+n) k e) hh (jo g1 jN) (need:=k+n) (sz:=ti.size) (by rw [yU,g2,c3,da.2.1,xZ]) AZ (aC cs&&aC new)
       (fun h=>by simp only [yf] at h;exact zH h.1 h.2) iB
      obtain ⟨k1,k2⟩:=LI hh (hp0:=hp) (p:=⟨w.heap.size,0,grownCap w (k+n) k e*ti.size,ti.size⟩) (fun _ _ h=>h) rfl gM;exact Ep (aI _ _ (by rw [ex];exact hr)) k1 (by simp only [ae];exact ⟨_,_,cV,rfl,iB,by simp⟩) (gB oA) k2
  | ay id o0 k=>
   rw [hx] at hv rx;simp only at hv;simp only [ae] at rx;obtain ⟨p,c,hm,ex,h1,h2⟩:=rx
   split at hv
   case h_2=>cases hv
   rename_i pu Ko zz cs hg
   cases hc:(ym zz ti.size&&(yx (k+n) room&&(yx ((k+n)*ti.bytes) room&&(yx (o0+k*ti.size) cs.length&&(yF 0 ti.size&&cd new))))) with
   | false=>rw [hc] at hv;cases hv
   | true=>
    rw [hc] at hv;simp only [yp,yb,yk] at hv;obtain ⟨rfl,rfl,rfl⟩:=hv;simp only [yf] at hc;have c0:=yi hc.1;have c1:=yr hc.2.1;have c2:=yr hc.2.2.1;have c3:=yr hc.2.2.2.1;have c4:=hc.2.2.2.2.2;simp only [room] at c1 c2;obtain ⟨p',arr,t',g1,g2,g3,g4,g5,g6,g7,g8,g9,g10⟩:=hh.obj id _ _ hg hm;rw [hm] at g1;injection g1 with g1
    subst g1;subst c0;rw [g3] at h2;have CM:bF O.ab m S w (slice o0 (k*ti.size) cs) p.b (p.o+o0):=rz _ _ _ _ (ns _ _ _ _ g7);obtain ⟨jG,f1,f2,f3⟩:=nZ _ _ _ CM;have Jr:(slice o0 (k*ti.size) cs).length=k*ti.size:=by simp only [slice,yQ,xJ];omega
    have kS:(pu&&aC new)=true->aC (slice o0 (k*ti.size) cs++new)=true:=fun h=>by
     simp only [yf] at h;exact zH (rm _ (pC _ _ (g8 h.1))) h.2
    by_cases B2:k+n<=c
    ·have eR:=HS jN c4;have NM:p.o+o0+k*ti.size+news.length<=arr.size:=by
      rw [da.2.1]
      have:(k+n)*ti.size<=c*ti.size:=yS _ B2
      rw [xZ] at this;omega
     have hr:=Z0 (P:=O.P) (ty:=b') (w:=w) oZ hu nT g2 da eR B2 NM;have ho:∀m',cJ m m'->m' ct=some ⟨p.b,p.o+o0,c*ti.size,ti.size⟩->
       dX O m' S (w.setRow p.b (arr.toList.take (p.o+o0+k*ti.size)++news++arr.toList.drop (p.o+o0+k*ti.size+news.length)).toArray) ct
        (.cells true (pu&&aC new) false ti.size (slice o0 (k*ti.size) cs++new)):=by
      intro m' hle hi;have aP:eF S w (w.setRow p.b (arr.toList.take (p.o+o0+k*ti.size)++news++arr.toList.drop (p.o+o0+k*ti.size+news.length)).toArray):=fun b hb=>setRow_other w p.b b _ (fun e=>g9 rfl (e▸hb))
      refine ⟨_,_,t',hi,setRow_heap w p.b arr _ t' _ g2,rfl,?_,?_,by simp,?_,kS,fun _=>g9 rfl,by simp⟩
      ·show (slice o0 (k*ti.size) cs++new).length<=c*ti.size
       rw [yU,Jr,<-GC,da.2.1,<-xZ];exact yS _ B2
      ·show p.o+o0+c*ti.size<=_
       rw [vO,yU,yU,yQ,xJ,wQ];omega
      ·refine BA _ (jG++news) _ (jo (fu hle (fun _ h=>h) aP _ _ f1) (fu hle (fun _ h=>h) aP _ _ jN)) (fun j u hj=>?_);show World.cell? _ ⟨p.b,p.o+o0+j,none⟩=some u
       simp only [World.cell?,setRow_heap w p.b arr _ t' _ g2,tn,yB,y8];rw [tg];have e1:(arr.toList.take (p.o+o0+k*ti.size)).length=p.o+o0+k*ti.size:=by rw [yQ,wQ];omega
       by_cases O1:j<k*ti.size
       ·rw [xK (by omega)] at hj;rw [xn,xK (by omega),vH (by omega)]
        have:=f3 j u hj
        simpa [World.cell?,g2] using this
       ·rw [xC (by omega)] at hj;have X8:=(List.getElem?_eq_some_iff.1 hj).1;rw [xn,xC (by omega),e1,xK (by omega),show p.o+o0+j-(p.o+o0+k*ti.size)=j-jG.length by omega];exact hj
     obtain ⟨k1,k2⟩:=abJ (p':=⟨p.b,p.o+o0,c*ti.size,ti.size⟩) hh hg hm (g9 rfl) (Lp w p.b _) (fun r hr=>by rw [g2] at hr;cases hr) rfl ho;exact Ep (aI _ _ (by rw [ex];exact hr)) k1 (by simp only [ae];exact ⟨_,c,cV,rfl,B2,by simp⟩) (gB oA) k2
    ·have GD:Src O.P w ti.size k jG (.slice (some ⟨p.b,p.o+o0,none⟩) k c):=Bw (by omega) (fun j u hj=>by rw [lD];exact f3 j u hj)
     have hr:=Hu (P:=O.P) (ty:=b') (w:=w) oZ hu nT GB rfl GD da (by omega) c1 c2;have iB:=grownCap_ge w (k+n) c e;have gM:=LH (e:=e) (z:=zv) (cap:=grownCap w (k+n) c e) hh (jo f1 jN) (need:=k+n) (sz:=ti.size) (by rw [yU,f2,Jr,da.2.1,xZ]) AZ (pu&&aC new) kS iB;obtain ⟨k1,k2⟩:=LI hh (hp0:=dc hp id) (p:=⟨w.heap.size,0,grownCap w (k+n) c e*ti.size,ti.size⟩) (fun i q h=>by
      rw [Ef] at h;by_cases hi:id=i
      ·simp [hi] at h
      ·simpa only [hi,y8] using h) rfl gM
     exact Ep (aI _ _ (by rw [ex];exact hr)) k1 (by simp only [ae];exact ⟨_,_,cV,rfl,iB,by simp⟩) (gB oA) k2
  | _=>rw [hx] at hv;simp at hv
end
end
section
open Go
section
variable {O:bh} {H:Hint} {m:Mp} {S:Nat->Prop} {w:yh} {tm:Env} {a:Act} {hp:Hp} {ct:Nat}
def aag {n:Nat} {cs:List AV} (h:aC cs=true):aC (cs.take n)=true:=rm n h
def Qr:∀(n:Nat) {cs:List AV},cd cs=true->cd (cs.take n)=true
 | 0,_,_=>by simp [cd]
 | n+1,[],_=>by simp [cd]
 | n+1,c::cs,h=>by
  simp only [wN,cd,yf] at h ⊢;exact ⟨h.1,Qr n h.2⟩
def adE {o:yL} {b':yq} {t u e:yq} {sz:Nat} {x y:xe} {v:AV} {an:Hp} {aT:Nat} (hH:dZ O H) (ht:bH O m S w tm a.tmps) (hh:aQ O m S w hp ct)
  (de:(execOp a.eval o).run O.P w=((do pure (.value (<-Builtin.copy_ #[t,u] b' #[a.eval x,a.eval y])):Sem tK)).run O.P w)
  (oZ:O.P.underlying t=some (.slice e)) (hs:bX O.P e=some sz)
  (hv:bT tm hp ct (.mW sz (aH H x) (aH H y))=some (v,an,aT)):pV O m S w a hp ct o v an aT:=by
 simp only [bT] at hv
 cases nK:jt hp sz (ao tm (aH H y)) with
 | none=>simp [nK] at hv
 | some q=>
  obtain ⟨n,new⟩:=q;simp only [nK] at hv;obtain ⟨news,jN,da⟩:=Q4 hh (bI hH ht y) nK;have GC:=eZ _ _ jN;have rx:=bI hH ht x;cases hx:ao tm (aH H x)<;>rw [hx] at hv rx<;>simp only [reduceCtorEq] at hv
  rename_i id o0 k;simp only [ae] at rx;obtain ⟨p,c,hm,ex,h1,h2⟩:=rx
  split at hv
  case h_2=>cases hv
  rename_i pu Ko zz cs hg
  cases hc:(ym zz sz&&(yx (o0+k*sz) cs.length&&cd new)) with
  | false=>rw [hc] at hv;cases hv
  | true=>
   rw [hc] at hv;simp only [yp,yb,yk] at hv;obtain ⟨rfl,rfl,rfl⟩:=hv;simp only [yf] at hc;have c0:=yi hc.1;have c1:=yr hc.2.1;subst c0;obtain ⟨p',arr,t',g1,g2,g3,g4,g5,g6,g7,g8,g9,g10⟩:=hh.obj id _ _ hg hm;rw [hm] at g1;injection g1 with g1
   subst g1;have Wv:min n k*zz<=k*zz:=yS _ (Nat.min_le_right _ _);have arm:min n k*zz<=n*zz:=yS _ (yah _ _);have rt:=Bv (min n k*zz) jN;have pc:(news.take (min n k*zz)).length=min n k*zz:=by rw [yQ,da.2.1];omega
   have arw:(new.take (min n k*zz)).length=min n k*zz:=by rw [yQ,<-GC,da.2.1];omega
   have eR:=HS rt (Qr _ hc.2.2);have hf:=da.2.2 w rfl (min n k) (yah _ _);have aP:=run_storeCells_at O.P p.b (p.o+o0) t' (news.take (min n k*zz)) 0 arr w g2 (by rw [pc];omega) eR;simp only [yX] at aP;have lZ:dX O m S (w.setRow p.b (arr.toList.take (p.o+o0)++news.take (min n k*zz)++arr.toList.drop (p.o+o0+(news.take (min n k*zz)).length)).toArray) id
     (.cells true (pu&&aC new) Ko zz (over o0 (new.take (min n k*zz)) cs)):=by
    refine ⟨p,_,t',hm,setRow_heap w p.b arr _ t' _ g2,g3,by rw [Ia (by omega)];exact g4,?_,fun h=>by rw [Ia (by omega)];exact g6 h,?_,?_,fun _=>g9 rfl,by simp⟩
    ·rw [vO,yU,yU,yQ,xJ,wQ,pc];omega
    ·exact SJ g2 g7 rt (by omega) (by omega) cJ.refl (fun _ h=>h) (fun b hb=>setRow_other w p.b b _ (fun e=>g9 rfl (e▸hb))) (setRow_heap w p.b arr _ t' _ g2)
    ·intro h;simp only [yf] at h;exact Q3 (g8 h.1) (aag h.2)
   obtain ⟨e1,e2⟩:=Eo hh hg hm (g9 rfl) (Lp w p.b _) lZ (fun r hr=>by rw [g2] at hr;cases hr)
   refine Ep (u:=goInt ((min n k:Nat):Int)) (m':=m) (S':=S) ?_ e1 (by simp [ae,goInt]) cJ.refl e2;rw [de,ex];simp [Builtin.copy_,run_underlying oZ,da.1 w,li hs,show Nat.min n k=min n k from rfl,hf,aP]
def afG {o:yL} {k:Nat} {v:AV} {an:Hp} {aT:Nat} (hH:dZ O H) (ht:bH O m S w tm a.tmps) (hh:aQ O m S w hp ct)
  (hv:bT tm hp ct (aJ O.P H k o)=some (v,an,aT)):pV O m S w a hp ct o v an aT:=by
 have fO:∀{r:AV×Hp×Nat},bT tm hp ct bad=some r->False:=fun h=>by simp [bad,bT] at h
 cases ho:o.op with
 | call c=>
  obtain ⟨callee,args,ts⟩:=c;simp only [aJ,ho] at hv
  split at hv
  ·cases Gv:H.mode k<;>simp [Gv,bT] at hv
  ·rename_i _ b
   split at hv
   ·rename_i x y t u dF kq;obtain ⟨al⟩:=args;obtain ⟨tl⟩:=ts;simp only at dF kq;subst dF;subst kq;obtain ⟨cs,de⟩:=pz (O:=O) (w:=w) (a:=a) ho;have Ar:(execOp a.eval o).run O.P w=((do pure (.value (<-Builtin.append_ #[t,u] o.type #[a.eval x,a.eval y])):Sem tK)).run O.P w:=by
     rw [de];simp [builtin]
    have key:∀{z:AV} {sz by':Nat} {e:yq},O.P.underlying t=some (.slice e)->((∃e',O.P.underlying u=some (.slice e'))\/O.P.underlying u=some .string)->bX O.P e=some sz->oQ O.P e=some by'->jz O.P e=some z->
      bT tm hp ct (bif ym (cellsOf z).length sz then .cD sz by' (aH H x) (aH H y) else bad)=some (v,an,aT)->pV O m S w a hp ct o v an aT:=by
     intro z sz by' e h1 h2 h3 h4 h5 h
     cases hb:ym (cellsOf z).length sz with
     | false=>rw [hb] at h;exact (fO h).elim
     | true=>
      rw [hb] at h;exact adD hH ht hh Ar h1 h2 h3 h4 h5 (yi hb) h
    split at hv
    ·rename_i e e' h1 h2
     split at hv
     ·rename_i sz by' z h3 h4 h5
      exact key h1 (.inl ⟨_,h2⟩) h3 h4 h5 hv
     ·exact (fO hv).elim
    ·rename_i e h1 h2
     split at hv
     ·rename_i sz by' z h3 h4 h5
      exact key h1 (.inr h2) h3 h4 h5 hv
     ·exact (fO hv).elim
    ·exact (fO hv).elim
   ·repeat' split at hv
    all_goals simp [bT,bad] at hv
   ·rename_i x y t u dF kq;obtain ⟨al⟩:=args;obtain ⟨tl⟩:=ts;simp only at dF kq;subst dF;subst kq;obtain ⟨cs,de⟩:=pz (O:=O) (w:=w) (a:=a) ho;have Ar:(execOp a.eval o).run O.P w=((do pure (.value (<-Builtin.copy_ #[t,u] o.type #[a.eval x,a.eval y])):Sem tK)).run O.P w:=by
     rw [de];simp [builtin]
    split at hv
    ·rename_i e h1
     split at hv
     ·rename_i sz h3;exact adE hH ht hh Ar h1 h3 hv
     ·exact (fO hv).elim
    ·exact (fO hv).elim
   ·simp [bT] at hv
   ·simp [bT] at hv
   ·simp [bT] at hv
   ·simp [bT] at hv
   ·simp [bT] at hv
   ·exact (fO hv).elim
  ·exact (fO hv).elim
 | store t x y=>
  simp only [aJ,ho] at hv
  split at hv
  ·rename_i s hs;exact afD hH ht hh ho hs hv
  ·exact (fO hv).elim
 | mapUpdate t x k y=>
  simp only [aJ,ho] at hv
  split at hv
  ·rename_i kt e hu
   split at hv
   ·rename_i kk nR;exact SK hH ht hh (.inl ho) hu nR hv
   ·exact (fO hv).elim
  ·exact (fO hv).elim
 | insert t x k y=>
  simp only [aJ,ho] at hv
  split at hv
  ·rename_i kt e hu
   split at hv
   ·rename_i kk nR;exact SK hH ht hh (.inr ho) hu nR hv
   ·exact (fO hv).elim
  ·exact (fO hv).elim
 | next x b=>
  cases b with
  | false=>simp only [aJ,ho] at hv;exact (fO hv).elim
  | true=>exact adC hH ht hh ho (by simpa only [aJ,ho] using hv)
 | binOp op t x y ty=>
  cases op<;>simp only [aJ,ho,kF,lB] at hv
  case eql=>
        repeat' split at hv
        all_goals first
         | (simp [bT,bad] at hv;done)
         | (cases hb:(O.P.stoodInHeld t||O.P.eqGuardType O.P.depth t)<;>rw [hb] at hv<;>simp [bT,bad] at hv)
  case neq=>
        repeat' split at hv
        all_goals first
         | (simp [bT,bad] at hv;done)
         | (cases hb:(O.P.stoodInHeld t||O.P.eqGuardType O.P.depth t)<;>rw [hb] at hv<;>simp [bT,bad] at hv)
  all_goals simp [bT] at hv
 | buildSlice t n parts=>
  simp only [aJ,ho] at hv
  repeat' split at hv
  all_goals first
   | (simp [bT,bad] at hv;done)
   | (
     revert hv;generalize yx _ _=bb;intro hv;cases bb<;>simp [bT,bad] at hv
     try (split at hv<;>simp [bT,bad] at hv))
 | makeMap t r=>
  cases r<;>simp only [aJ,ho] at hv
  ·repeat' split at hv
   all_goals simp [bT,bad] at hv
  ·exact (fO hv).elim
 | _=>
  simp only [aJ,ho] at hv
  (repeat' split at hv)
  all_goals first
   | contradiction
   | (simp [bT,bad] at hv;done)
end
end
section
variable {hp H:Hp} {tm bS:Env}
def TQ (hl:cy hp H) {id:Nat} {rw pu ex:Bool} {sz:Nat} {cs:List AV} (h:ap hp id=some (.cells rw pu ex sz cs)):∃ef,ap H id=some (.cells ef pu ex sz cs):=by
 obtain ⟨o',h1,ef,rfl,_⟩:=hl id _ h
 grind
def TR (hl:cy hp H) {id:Nat} {rw:Bool} {ks vs:List AV} (h:ap hp id=some (.mp rw ks vs)):∃ef,ap H id=some (.mp ef ks vs):=by
 obtain ⟨o',h1,ef,rfl,_⟩:=hl id _ h
 grind
def Mt (hl:cy hp H) {sz:Nat} {ag:Bool} {x v:AV} (h:eM hp sz ag x=some v):eM H sz ag x=some v:=by
 cases x<;>simp only [eM,reduceCtorEq] at h ⊢
 ·rename_i id o
  cases hg:ap hp id with
  | none=>simp [hg] at h
  | some ob=>
   cases ob<;>simp only [hg,reduceCtorEq] at h
   obtain ⟨r,h1⟩:=TQ hl hg
   grind
 ·exact h
def adF (hl:cy hp H) {k x:AV} {v:Option AV} (h:r8 hp k x=some v):r8 H k x=some v:=by
 cases x<;>simp only [r8,reduceCtorEq] at h ⊢
 ·grind
 ·rename_i id
  cases hg:ap hp id with
  | none=>simp [hg] at h
  | some ob=>
   cases ob<;>simp only [hg,reduceCtorEq] at h
   obtain ⟨r,h1⟩:=TR hl hg
   grind
 ·exact h
def adG (hl:cy hp H) {k:Nat} {x v:AV} (h:gF hp k x=some v):gF H k x=some v:=by
 unfold gF at h ⊢
 split at h
 all_goals first
  | exact h
  | cases h
  | skip
 rename_i id
 cases hg:ap hp id with
 | none=>simp [hg] at h
 | some ob=>
  cases ob<;>simp only [hg,reduceCtorEq] at h
  obtain ⟨r,h1⟩:=TR hl hg
  grind
def adH (hl:cy hp H) {k:Cut} {x v:AV} {lo hi:Option X} (h:eB hp k x tm lo hi=some v):eB H k x tm lo hi=some v:=by
 unfold eB at h ⊢
 split at h
 all_goals first
  | exact h
  | cases h
  | skip
 rename_i sz id o n
 cases hg:ap hp id with
 | none=>simp [hg] at h
 | some ob=>
  cases ob<;>simp only [hg,reduceCtorEq] at h
  obtain ⟨r,h1⟩:=TQ hl hg
  grind
def abK (hl:cy hp H) {o:Op} {v:AV} (h:a7 tm hp o=some v):a7 tm H o=some v:=by
 cases o<;>simp only [a7,reduceCtorEq] at h ⊢<;>first
  | exact h
  | exact Mt hl h
  | exact adG hl h
  | exact adH hl h
  | skip
 rename_i kk zero ok m k
 cases hk:lz kk (ao tm k) with
 | false=>rw [hk] at h;cases h
 | true=>
  rw [hk] at h
  cases hr:r8 hp (ao tm k) (ao tm m) with
  | none=>simp [hr] at h
  | some r=>rw [adF hl hr];simpa only [hr] using h
def abL {o:Op} (hk:a8 o=0) (hp H:Hp):a7 tm hp o=a7 tm H o:=by
 cases o with
 | mR k x lo hi=>
  cases k with
  | str=>simp only [a7,eB];cases ao tm x<;>rfl
  | sl sz=>simp [a8] at hk
  | ar n sz=>simp [a8] at hk
 | len k x=>
  match k,hk with
  | 0,_=>simp only [a7];unfold gF;split<;>simp_all
  | 1,_=>simp only [a7];unfold gF;split<;>simp_all
  | k+2,hk=>simp [a8] at hk
 | call md f xs=>cases md<;>simp [a8] at hk
 | _=>first
  | rfl
  | simp [a8] at hk
end
section
variable {tm bS:Env}
def cW {x:X} (h:∀t,t∈gG x->ah bS t=ah tm t):ao bS x=ao tm x:=by
 cases x with
 | t i=>exact h i (by simp [gG])
 | c v=>rfl
def zJ:∀{xs:List X},(∀t,t∈pM xs->ah bS t=ah tm t)->cX bS xs=cX tm xs
 | [],_=>rfl
 | x::r,h=>by
  simp only [cX]
  rw [cW (x:=x) (fun t ht=>h t (by simp [pM,ht])),zJ (fun t ht=>h t (by simp [pM,ht]))]
def HT:∀{ps:List (Nat×Nat×X)} {z:List AV},(∀t,t∈Fi ps->ah bS t=ah tm t)->fill bS z ps=fill tm z ps
 | [],_,_=>rfl
 | (o,s,x)::r,z,h=>by
  simp only [fill]
  rw [cW (x:=x) (fun t ht=>h t (by simp [Fi,ht]))]
  rw [HT (ps:=r) (fun t ht=>h t (by simp [Fi,ht]))]
def Q5 {d:Nat} {x:Option X} (h:∀t,t∈Fh x->ah bS t=ah tm t):cL bS d x=cL tm d x:=by
 cases x with
 | none=>rfl
 | some x=>simp only [cL];rw [cW h]
def aaN {hp:Hp} {k:Cut} {x:AV} {lo hi:Option X} (h1:∀t,t∈Fh lo->ah bS t=ah tm t) (h2:∀t,t∈Fh hi->ah bS t=ah tm t):
  eB hp k x bS lo hi=eB hp k x tm lo hi:=by
 unfold eB;simp only [Q5 h1,Q5 h2]
def aah {hp:Hp} {o:Op} (h:∀t,t∈ir o->ah bS t=ah tm t):a7 bS hp o=a7 tm hp o:=by
 cases o<;>simp only [ir,xY] at h<;>simp only [a7]
 case pick c a b=>rw [cW (x:=c) fun t ht=>h t (.inl ht),cW (x:=a) fun t ht=>h t (.inr (.inl ht)),cW (x:=b) fun t ht=>h t (.inr (.inr ht))]
 case Aj z ps=>rw [HT h]
 case lV n s z ps=>rw [HT h]
 case CF f a b=>rw [zJ (xs:=a) fun t ht=>h t (.inl ht),zJ (xs:=b) fun t ht=>h t (.inr ht)]
 case mR k x lo hi=>rw [cW (x:=x) fun t ht=>h t (.inl ht),aaN (fun t ht=>h t (.inr (.inl ht))) (fun t ht=>h t (.inr (.inr ht)))]
 case mn xs=>rw [zJ h]
 case mx xs=>rw [zJ h]
 case bin op x y=>rw [cW (x:=x) fun t ht=>h t (.inl ht),cW (x:=y) fun t ht=>h t (.inr ht)]
 case Gp x y=>rw [cW (x:=x) fun t ht=>h t (.inl ht),cW (x:=y) fun t ht=>h t (.inr ht)]
 case eq n k x y=>rw [cW (x:=x) fun t ht=>h t (.inl ht),cW (x:=y) fun t ht=>h t (.inr ht)]
 case bt s x y=>rw [cW (x:=x) fun t ht=>h t (.inl ht),cW (x:=y) fun t ht=>h t (.inr ht)]
 case sQ l s x y=>rw [cW (x:=x) fun t ht=>h t (.inl ht),cW (x:=y) fun t ht=>h t (.inr ht)]
 case CG x y=>rw [cW (x:=x) fun t ht=>h t (.inl ht),cW (x:=y) fun t ht=>h t (.inr ht)]
 case CH l s g x y=>rw [cW (x:=x) fun t ht=>h t (.inl ht),cW (x:=y) fun t ht=>h t (.inr ht)]
 case Kk kk z ok x y=>rw [cW (x:=x) fun t ht=>h t (.inl ht),cW (x:=y) fun t ht=>h t (.inr ht)]
 all_goals first
  | rfl
  | (rename_i x;rw [cW (x:=x) h])
def D4 {hp an:Hp} {ct:Nat} {o:Op} (h:∀t,t∈ir o->ah bS t=ah tm t):ck bS an ct o=ck tm hp ct o:=by
 cases o<;>simp only [ir,xY] at h<;>simp only [ck]
 case box s x=>rw [cW (x:=x) h]
 case fB n s z ps=>rw [HT h]
 case lU s b z x y=>rw [cW (x:=x) fun t ht=>h t (.inl ht),cW (x:=y) fun t ht=>h t (.inr ht)]
 case mT x=>rw [cW (x:=x) h]
def zI {hp:Hp} {ct:Nat} {o:Op} (h:∀t,t∈ir o->ah bS t=ah tm t):bT bS hp ct o=bT tm hp ct o:=by
 cases o<;>simp only [ir,xY] at h<;>simp only [bT]
 case st s x y=>rw [cW (x:=x) fun t ht=>h t (.inl ht),cW (x:=y) fun t ht=>h t (.inr ht)]
 case mS kk c a b=>rw [cW (x:=c) fun t ht=>h t (.inl ht),cW (x:=a) fun t ht=>h t (.inr (.inl ht)),cW (x:=b) fun t ht=>h t (.inr (.inr ht))]
 case mU x=>rw [cW (x:=x) h]
 case cD s b x y=>rw [cW (x:=x) fun t ht=>h t (.inl ht),cW (x:=y) fun t ht=>h t (.inr ht)]
 case mW s x y=>rw [cW (x:=x) fun t ht=>h t (.inl ht),cW (x:=y) fun t ht=>h t (.inr ht)]
end
section
open Go
structure Calm (w w':yh):Prop where
 os:w'.os=w.os
 tape:w'.tape=w.tape
 output:w'.output=w.output
 size:w.heap.size<=w'.heap.size
 same:∀b,b<w.heap.size->w'.heap[b]? =w.heap[b]?
def Calm.refl {w:yh}:Calm w w:=⟨rfl,rfl,rfl,yv _,fun _ _=>rfl⟩
def sd (O:bh) (w:yh):Prop:=(∀b,b<O.w0.heap.size->w.heap[b]? =O.w0.heap[b]?)/\O.w0.heap.size<=w.heap.size
def dS:Mp:=fun _=>none
def fZ (ab:Nat->Nat) (S:Nat->Prop) (w:yh) (lo:Nat):AV->yg->List Nat->Prop
 | .cx ex sz n cs,u,bs=>∃b o c arr t,bs=[b]/\u= .slice (some ⟨b,o,none⟩) n c/\n<=c/\(ex=true->c=n)/\lo<=b/\¬S b/\w.heap[b]? =some (.cells arr t (0,0))/\cs.length=n*sz/\
   o+c*sz<=arr.size/\bF ab dS S w cs b o/\aC cs=true
 | r,u,bs=>bs=[]/\ae ab dS S w r u/\aX r=true
def jh (ab:Nat->Nat) (S:Nat->Prop) (w:yh) (lo:Nat):List AV->List yg->List Nat->Prop
 | [],us,bs=>us=[]/\bs=[]
 | v::r,us,bs=>∃u t b1 b2,us=u::t/\bs=b1++b2/\fZ ab S w lo v u b1/\jh ab S w lo r t b2
def lM (ab:Nat->Nat) (S:Nat->Prop) (w:yh) (lo:Nat) (r:AV) (u:yg):Prop:=
 match r with
 | .av vs=>∃(us:Array yg) (bs:List Nat),u= .tuple us/\jh ab S w lo vs us.toList bs/\bs.Nodup
 | r=>∃bs,fZ ab S w lo r u bs
def rL (P:yK) (f:FuncId) (args:Array yg) (w:yh) (R:yai->yh->Prop):Prop:=
 ((callFunc f args).run P w= .ok (.enter f args) w/\CallsIn Fence.wide 0 P f args w R)\/∃u w',(callFunc f args).run P w= .ok (.value u) w'/\R (.returned u) w'
def SL (O:bh) (w:yh) (S:Nat->Prop) (r:AV) (e:yai) (w':yh):Prop:=
 ∃u S',e= .returned u/\Calm w w'/\(∀b,S b->S' b)/\(∀b,S' b->S b\/w.heap.size<=b)/\(∀b,S' b->b<w'.heap.size)/\lM O.ab S' w' w.heap.size r u
def dG (O:bh) (n:Nat) (aj:List AV) (r:AV):Prop:=
 ∀(w:yh) (S:Nat->Prop) (args:Array yg),sd O w->(∀b,S b->b<w.heap.size)->au O.ab dS S w aj args.toList->aC aj=true->
  rL O.P (O.ab n) args w (SL O w S r)
def pE (O:bh) (m:Mp) (S:Nat->Prop) (w:yh) (hp:Hp) (ct:Nat) (v:AV) (an:Hp) (aT:Nat) (e:yai) (w':yh):Prop:=
 ∃u m' S',e= .returned u/\aQ O m' S' w' an aT/\ct<=aT/\ae O.ab m' S' w' v u/\bM m S w hp m' S' w' an ct
def se (O:bh) (n:Nat) (hp:Hp) (ct:Nat) (aj:List AV) (v:AV) (an:Hp) (aT:Nat):Prop:=
 ∀(m:Mp) (S:Nat->Prop) (w:yh) (args:Array yg),aQ O m S w hp ct->au O.ab m S w aj args.toList->rL O.P (O.ab n) args w (pE O m S w hp ct v an aT)
section
variable {ab:Nat->Nat} {m m':Mp} {S S':Nat->Prop} {w w':yh}
mutual
def nA (hS:∀b,S b->S' b) (hw:eF S w w'):∀(v:AV) (u:yg),aX v=true->ae ab m S w v u->ae ab m' S' w' v u
 | .int _ _,_,_,h | .bool _,_,_,h | .aD _ _,_,_,h | .c9 _ _ _,_,_,h | .str _,_,_,h | .jB,_,_,h | .af,_,_,h | .gK,_,_,h | .iO,_,_,h | .undef,_,_,h=>by
  simpa only [ae] using h
 | .ptr id o,u,hp,h=>by simp [aX] at hp
 | .bR cs,u,hp,h=>by
  simp only [ae] at h ⊢;obtain ⟨b,o,h1,h2,h3,h4⟩:=h;refine ⟨b,o,h1,h2.imp id (hS b),h3,?_⟩;rcases h2 with rfl | h2
  ·simp only [bF]
  ·exact Lq hS hw cs b o h3 h2 h4
 | .aq ex n cs,u,hp,h=>by
  simp only [ae] at h ⊢;rcases h with ⟨b,o,c,h1,h2,h3,h4,h5,h6⟩ | h
  ·refine .inl ⟨b,o,c,h1,h2,h3,h4.imp id (hS b),h5,?_⟩;rcases h4 with rfl | h4
   ·simp only [bF]
   ·exact Lq hS hw cs b o h5 h4 h6
  ·exact .inr h
 | .cx _ _ _ _,u,hp,h=>by simp [aX] at hp
 | .ay id o n,u,hp,h=>by simp [aX] at hp
 | .fn (.f g) first cap,u,hp,h=>by
  simp only [ae] at h ⊢;simp only [aX,yf] at hp;obtain ⟨fi,ca,h1,h2,h3⟩:=h;exact ⟨fi,ca,h1,pD hS hw first _ hp.1 h2,pD hS hw cap _ hp.2 h3⟩
 | .fn (.y l) _ _,u,hp,h=>by simp [aX] at hp
 | .map id,u,hp,h=>by simp [aX] at hp
 | .iP ks vs,u,hp,h=>by
  simp only [ae] at h ⊢;obtain ⟨b,es,clock,h1,h2,h3,h4,h5,h6,h7⟩:=h;exact ⟨b,es,clock,h1,hS b h2,h3,h4,(hw b h2).trans h5,pD hS hw ks _ h3 h6,pD hS hw vs _ h4 h7⟩
 | .it id,u,hp,h=>by simp [aX] at hp
 | .agg cs,u,hp,h=>by
  simp only [ae] at h ⊢;simp only [aX] at hp;obtain ⟨xs,h1,h2⟩:=h;exact ⟨xs,h1,pD hS hw cs _ hp h2⟩
 | .av cs,u,hp,h=>by
  simp only [ae] at h ⊢;simp only [aX] at hp;obtain ⟨xs,h1,h2⟩:=h;exact ⟨xs,h1,pD hS hw cs _ hp h2⟩
def pD (hS:∀b,S b->S' b) (hw:eF S w w'):∀(vs:List AV) (us:List yg),aC vs=true->au ab m S w vs us->au ab m' S' w' vs us
 | [],us,_,h=>by simpa only [au] using h
 | v::r,us,hp,h=>by
  simp only [au] at h ⊢;simp only [aC,yf] at hp;obtain ⟨u,t,h1,h2,h3⟩:=h;exact ⟨u,t,h1,nA hS hw v u hp.1 h2,pD hS hw r t hp.2 h3⟩
def Lq (hS:∀b,S b->S' b) (hw:eF S w w'):∀(cs:List AV) (b o:Nat),aC cs=true->S b->bF ab m S w cs b o->bF ab m' S' w' cs b o
 | [],_,_,_,_,_=>by simp only [bF]
 | c::cs,b,o,hp,hb,h=>by
  simp only [bF] at h ⊢;simp only [aC,yf] at hp;obtain ⟨⟨u,h1,h2⟩,h3⟩:=h;exact ⟨⟨u,(Ht (hw b hb)).trans h1,nA hS hw c u hp.1 h2⟩,Lq hS hw cs b (o+1) hp.2 hb h3⟩
end
def rn (hS:∀b,S b->S' b) (hw:eF S w w'):∀(cs:List AV) (b o:Nat),aC cs=true->w'.heap[b]? =w.heap[b]? ->bF ab m S w cs b o->bF ab m' S' w' cs b o
 | [],_,_,_,_,_=>by simp only [bF]
 | c::cs,b,o,hp,hb,h=>by
  simp only [aC,yf] at hp;obtain ⟨⟨u,h1,h2⟩,h3⟩:=h;exact ⟨⟨u,(Ht hb).trans h1,nA hS hw c u hp.1 h2⟩,rn hS hw cs b (o+1) hp.2 hb h3⟩
end
section
variable {O:bh} {m:Mp} {S S':Nat->Prop} {w w':yh} {hp:Hp} {ct:Nat}
def abM (hh:aQ O m S w hp ct) (hw:Calm w w'):eF S w w':=fun b hb=>hw.same b (hh.slt b hb)
def rC (hh:aQ O m S w hp ct) (hw:Calm w w') (hS:∀b,S b->S' b) (hn:∀b,S' b->S b\/w.heap.size<=b) (hl:∀b,S' b->b<w'.heap.size):aQ O m S' w' hp ct where
 obj id o p ho hm:=n7 (fun _ _ h=>h) hS (abM hh hw) (fun q hq=>hw.same _ (hh.blt id q hq)) (fun q hq hs=>(hn _ hs).resolve_right (by have:=hh.blt id q hq;omega)) (hh.obj id o p ho hm)
 lt:=hh.lt
 inj:=hh.inj
 slt:=hl
 blt id p h:=yR (hh.blt id p h) hw.size
 low:=hh.low
 jF b hb:=(hw.same b (yR hb hh.eK)).trans (hh.jF b hb)
 eK:=Nat.le_trans hh.eK hw.size
 aO:=hh.aO
def pG {base:Nat} (hh:aQ O m S w hp ct) (hw:Calm w w') (hS:∀b,S b->S' b) (hn:∀b,S' b->S b\/w.heap.size<=b):bM m S w hp m S' w' hp base where
 os:=hw.os
 tape:=hw.tape
 output:=hw.output
 size:=hw.size
 same b hb _:=hw.same b hb
 sub:=hS
 still b hb:=hw.same b (hh.slt b hb)
 new b hb:=(hn b hb).imp id .inr
 own b hb:= .inl hb
 old _ _ _ h:=h
 loops b r hb:=⟨r,(hw.same b (xg.1 hb).1).trans hb⟩
def adI {i:Nat} (hh:aQ O m S w hp ct) (hi:m i=none) (CJ:i<ct) {p:Pl} (hb:p.b<w.heap.size) (aY:O.w0.heap.size<=p.b) (CK:¬S p.b) (ma:∀j q,m j=some q->q.b≠p.b)
  (hf:∀o,ap hp i=some o->(dX O (ew m i p) S w i o/\¬fV o)\/(fV o/\dX O (ew m i p) (fun b=>S b\/b=p.b) w i o)):
  ∃S',aQ O (ew m i p) S' w hp ct/\(∀b,S b->S' b)/\∀b,S' b->S b\/b=p.b:=by
 have aP:eF S w w:=fun _ _=>rfl
 have gen:∀S':Nat->Prop,(∀b,S b->S' b)->(∀b,S' b->S b\/b=p.b)->(∀o,ap hp i=some o->dX O (ew m i p) S' w i o)->aQ O (ew m i p) S' w hp ct:=by
  intro S' h1 h2 h3;refine ⟨?_,?_,?_,?_,?_,?_,hh.jF,hh.eK,hh.aO⟩
  ·intro id o q ho hm;by_cases hc:id=i
   ·grind
   ·rw [dD hc] at hm;refine n7 (gB hi) h1 aP (fun _ _=>rfl) (fun q' bB hs=>?_) (hh.obj id o q ho hm)
    grind
  ·intro id q hm;by_cases hc:id=i
   ·grind
   ·rw [dD hc] at hm;exact hh.lt id q hm
  ·intro a b oa ob pa pb ha bK AY qh e;by_cases ca:a=i
   ·by_cases cb:b=i
    ·grind
    ·subst ca;rw [cV] at AY;rw [dD cb] at qh
     grind
   ·rw [dD ca] at AY;by_cases cb:b=i
    ·subst cb;rw [cV] at qh
     grind
    ·rw [dD cb] at qh;exact hh.inj a b oa ob pa pb ha bK AY qh e
  ·intro b hs;rcases h2 b hs with h | h
   ·exact hh.slt b h
   ·grind
  ·intro id q hm;by_cases hc:id=i
   ·subst hc;rw [cV] at hm
    grind
   ·rw [dD hc] at hm;exact hh.blt id q hm
  ·intro id q hm;by_cases hc:id=i
   ·subst hc;rw [cV] at hm
    grind
   ·rw [dD hc] at hm;exact hh.low id q hm
 cases ho:ap hp i with
 | none=>exact ⟨S,gen S (fun _ h=>h) (fun _ h=> .inl h) (fun o h=>by rw [ho] at h;cases h),fun _ h=>h,fun _ h=> .inl h⟩
 | some o=>
  rcases hf o ho with ⟨h1,_⟩ | ⟨_,h1⟩
  ·exact ⟨S,gen S (fun _ h=>h) (fun _ h=> .inl h) (fun o' h=>by rw [ho] at h;injection h with h;subst h;exact h1),fun _ h=>h,fun _ h=> .inl h⟩
  ·exact ⟨_,gen (fun b=>S b\/b=p.b) (fun _ h=> .inl h) (fun _ h=>h) (fun o' h=>by rw [ho] at h;injection h with h;subst h;exact h1),fun _ h=> .inl h,fun _ h=>h⟩
def RZ {ab:Nat->Nat} {lo:Nat} {r:AV} {u:yg} {bs:List Nat} (h:fZ ab S w lo r u bs) (m:Mp) (hS:∀b,S b->S' b) (hbs:∀b,b∈bs->S' b):ae ab m S' w (bG r) u:=by
 have aP:eF S w w:=fun _ _=>rfl
 cases r with
 | cx ex sz n cs=>
  obtain ⟨b,o,c,arr,t,rfl,rfl,h1,h2,h3,h4,h5,h6,h7,h8,h9⟩:=h;exact .inl ⟨b,o,c,rfl,h1,h2,.inr (hbs b (by simp)),h9,rn hS aP cs b o h9 rfl h8⟩
 | _=>simp only [fZ] at h;exact nA hS aP _ _ h.2.2 h.2.1
def R0 {ab:Nat->Nat} {lo:Nat} (m:Mp) (hS:∀b,S b->S' b):∀{vs:List AV} {us:List yg} {bs:List Nat},jh ab S w lo vs us bs->(∀b,b∈bs->S' b)->au ab m S' w (Ak vs) us
 | [],us,bs,h,_=>by simp only [jh] at h;exact h.1
 | v::r,us,bs,h,hb=>by
  obtain ⟨u,t,b1,b2,rfl,rfl,h1,h2⟩:=h;exact ⟨u,t,rfl,RZ h1 m hS (fun b bK=>hb b (by simp [bK])),R0 m hS h2 (fun b bK=>hb b (by simp [bK]))⟩
def Mu {ab:Nat->Nat} {lo:Nat} {r:AV} {u:yg} {bs:List Nat} (h:fZ ab S w lo r u bs):∀b,b∈bs->lo<=b/\b<w.heap.size:=by
 intro b hb
 cases r with
 | cx ex sz n cs=>
  simp only [fZ] at h
  grind
 | _=>simp only [fZ] at h;rw [h.1] at hb;cases hb
def Mv {ab:Nat->Nat} {lo:Nat}:∀{vs:List AV} {us:List yg} {bs:List Nat},jh ab S w lo vs us bs->∀b,b∈bs->lo<=b/\b<w.heap.size
 | [],us,bs,h,b,hb=>by simp only [jh] at h;rw [h.2] at hb;cases hb
 | v::r,us,bs,h,b,hb=>by
  obtain ⟨u,t,b1,b2,rfl,rfl,h1,h2⟩:=h;rcases xY.1 hb with hb | hb
  ·exact Mu h1 b hb
  ·exact Mv h2 b hb
def R1 {ab:Nat->Nat} {lo:Nat} {r:AV} {u:yg} (h:lM ab S w lo r u) (m:Mp):∃S',(∀b,S b->S' b)/\(∀b,S' b->S b\/(lo<=b/\b<w.heap.size))/\ae ab m S' w (shut r) u:=by
 have one:∀(r:AV) (bs:List Nat),shut r=bG r->fZ ab S w lo r u bs->∃S',(∀b,S b->S' b)/\(∀b,S' b->S b\/(lo<=b/\b<w.heap.size))/\ae ab m S' w (shut r) u:=by
  intro r bs hs h;refine ⟨fun b=>S b\/b∈bs,fun _ h=> .inl h,fun b hb=>hb.imp (fun x=>x) (fun hb=>Mu h b hb),?_⟩;rw [hs];exact RZ h m (fun _ h=> .inl h) (fun _ h=> .inr h)
 cases r with
 | av vs=>
  obtain ⟨us,bs,rfl,h1,h2⟩:=h;refine ⟨fun b=>S b\/b∈bs,fun _ h=> .inl h,fun b hb=>hb.imp (fun x=>x) (fun hb=>Mv h1 b hb),?_⟩;exact ⟨us,rfl,R0 m (fun _ h=> .inl h) h1 (fun _ h=> .inr h)⟩
 | _=>
  obtain ⟨bs,h⟩:=h;exact one _ bs rfl h
end
end
end VE
