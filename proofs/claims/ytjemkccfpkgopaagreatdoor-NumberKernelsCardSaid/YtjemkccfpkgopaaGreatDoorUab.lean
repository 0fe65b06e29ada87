import Derived.Maps.Keyed
import Derived.ChangeKeysEq
import Derived.Laws.Tables
import Derived.IntWalk
import Derived.Test.YtjemkccfpkgopaaGreatDoorUaa
set_option linter.all false
set_option maxRecDepth 100000
open Array renaming range→uy
open Bool renaming and_assoc→tj,and_eq_true→ye,not_eq_true'→tk
open Go renaming MapEntry→uC,Oper→y5,Operand→xo,Program→y8,TypeDesc→vj,TypeId→yD,Value→yf,World→yh,binOp→xJ
open List renaming cons_append→xh,drop_drop→vH,flatten_append→tV,flatten_cons→wX,length_cons→yG,length_drop→xT,length_take→yI,map_cons→xe,range→xC,replicate→yq,replicate_succ→wH,take_succ_cons→wq
open Nat renaming add_mul→wI,beq→yx,beq_refl→vd,ble→yF,eq_of_beq_eq_true→ym,le_of_ble_eq_true→yA,mul_comm→xB,one_mul→ybJ
open Option.some renaming injEq→yd
open Prod.mk renaming injEq→yj
namespace VE
section
open Go
section
variable {af:Nat->Nat} {m:Mp} {S:Nat->Prop} {w:yh}
def PY:∀{v:AV} {u:yf},ah af m S w v u->cm (cellsOf v)=true->az af m S w (cellsOf v) u.cells.toList:=by
 intro v u h h1;cases v
 case agg cs=>
  simp only [ah] at h;obtain ⟨xs,rfl,hr⟩:=h;exact hr
 case ae vs=>simp [cellsOf,cm,dc] at h1
 case undef=>simp [cellsOf,cm,dc] at h1
 case bt=>simp [cellsOf,cm,dc] at h1
 case fn f a b=>
  cases f with
  | f g=>have h':=h;simp only [ah] at h';obtain ⟨fi,ca,rfl,_⟩:=h';simp only [cellsOf,Value.cells,az];exact ⟨_,_,rfl,h,rfl⟩
  | y l=>have h':=h;simp only [ah] at h';obtain ⟨p,_,rfl⟩:=h';simp only [cellsOf,Value.cells,az];exact ⟨_,_,rfl,h,rfl⟩
 case str s=>have h':=h;simp only [ah] at h';obtain ⟨b,rfl,_⟩:=h';simp only [cellsOf,Value.cells,az];exact ⟨_,_,rfl,h,rfl⟩
 case ptr id o=>have h':=h;simp only [ah] at h';obtain ⟨b,_,rfl⟩:=h';simp only [cellsOf,Value.cells,az];exact ⟨_,_,rfl,h,rfl⟩
 case bZ cs=>have h':=h;simp only [ah] at h';obtain ⟨b,o,rfl,_⟩:=h';simp only [cellsOf,Value.cells,az];exact ⟨_,_,rfl,h,rfl⟩
 case ai e n cs=>have h':=h;simp only [ah] at h';rcases h' with ⟨b,o,c,rfl,_⟩ | ⟨a,rfl,_,_⟩<;>(simp only [cellsOf,Value.cells,az];exact ⟨_,_,rfl,h,rfl⟩)
 case aC id o n=>have h':=h;simp only [ah] at h';obtain ⟨p,c,_,rfl,_⟩:=h';simp only [cellsOf,Value.cells,az];exact ⟨_,_,rfl,h,rfl⟩
 case map id=>have h':=h;simp only [ah] at h';obtain ⟨p,_,rfl⟩:=h';simp only [cellsOf,Value.cells,az];exact ⟨_,_,rfl,h,rfl⟩
 case iV ks vs=>have h':=h;simp only [ah] at h';obtain ⟨b,es,cl,rfl,_⟩:=h';simp only [cellsOf,Value.cells,az];exact ⟨_,_,rfl,h,rfl⟩
 case it id=>have h':=h;simp only [ah] at h';obtain ⟨p,_,rfl⟩:=h';simp only [cellsOf,Value.cells,az];exact ⟨_,_,rfl,h,rfl⟩
 all_goals
  have h':=h;simp only [ah] at h';subst h';simp only [cellsOf,Value.cells,az];exact ⟨_,_,rfl,h,rfl⟩
def Di (v:yf):az af m S w (cellsOf (er v)) v.cells.toList:=by
 have h:=LB (af:=af) (m:=m) (S:=S) (w:=w) v;cases v
 case agg xs=>
  obtain ⟨l⟩:=xs;simp only [er,ah] at h ⊢;obtain ⟨xs,e,hr⟩:=h;injection e with e
  subst e;exact hr
 case tuple xs=>obtain ⟨l⟩:=xs;simp only [er] at h ⊢;simp only [cellsOf,Value.cells,az];exact ⟨_,_,rfl,h,rfl⟩
 case pointer p=>cases p<;>(simp only [er] at h ⊢;simp only [cellsOf,Value.cells,az];exact ⟨_,_,rfl,h,rfl⟩)
 case map p=>cases p<;>(simp only [er] at h ⊢;simp only [cellsOf,Value.cells,az];exact ⟨_,_,rfl,h,rfl⟩)
 case slice p n c=>
  cases p
  ·cases n
   ·cases c<;>(simp only [er] at h ⊢;simp only [cellsOf,Value.cells,az];exact ⟨_,_,rfl,h,rfl⟩)
   ·simp only [er] at h ⊢;simp only [cellsOf,Value.cells,az];exact ⟨_,_,rfl,h,rfl⟩
  ·simp only [er] at h ⊢;simp only [cellsOf,Value.cells,az];exact ⟨_,_,rfl,h,rfl⟩
 all_goals (simp only [er] at h ⊢;simp only [cellsOf,Value.cells,az];exact ⟨_,_,rfl,h,rfl⟩)
def lA:∀{a b:List AV} {x y:List yf},az af m S w a x->az af m S w b y->az af m S w (a++b) (x++y)
 | [],b,x,y,h,k=>by simp only [az] at h;subst h;simpa using k
 | c::a,b,x,y,h,k=>by
  simp only [az] at h;obtain ⟨u,r,rfl,h2,h3⟩:=h;simp only [xh,az];exact ⟨u,r++y,rfl,h2,lA h3 k⟩
def G2:∀(k:Nat) {cs:List AV} {us:List yf},az af m S w cs us->az af m S w (cs.drop k) (us.drop k)
 | 0,cs,us,h=>by simpa using h
 | k+1,[],us,h=>by simp only [az] at h;subst h;simp [az]
 | k+1,c::cs,us,h=>by simp only [az] at h;obtain ⟨u,r,rfl,_,h3⟩:=h;simpa using G2 k h3
def Dr:∀(k:Nat) {cs:List AV} {us:List yf},az af m S w cs us->az af m S w (cs.take k) (us.take k)
 | 0,cs,us,h=>by simp [az]
 | k+1,[],us,h=>by simp only [az] at h;subst h;simp [az]
 | k+1,c::cs,us,h=>by
  simp only [az] at h;obtain ⟨u,r,rfl,h2,h3⟩:=h;simp only [wq,az];exact ⟨u,_,rfl,h2,Dr k h3⟩
def Qi:∀{cs:List AV} {us:List yf} {i:Nat} {v:AV},az af m S w cs us->cs[i]? =some v->∃u,us[i]? =some u/\ah af m S w v u
 | [],us,i,v,_,h=>by simp at h
 | c::cs,us,0,v,h,e=>by
  simp only [az] at h;obtain ⟨u,r,rfl,h2,h3⟩:=h;simp at e;subst e;exact ⟨u,rfl,h2⟩
 | c::cs,us,i+1,v,h,e=>by
  simp only [az] at h;obtain ⟨u,r,rfl,h2,h3⟩:=h;simp at e;simpa using Qi h3 e
end
def aaV (off:Nat):∀(new:List yf) (j:Nat) (cells:Array yf),off+j+new.length<=cells.size->
  ((new.zipIdx j).foldl (fun (cs:Array yf) (p:yf×Nat)=>cs.setIfInBounds (off+p.2) p.1) cells).toList=
   cells.toList.take (off+j)++new++cells.toList.drop (off+j+new.length)
 | [],j,cells,_=>by simp
 | v::r,j,cells,h=>by
  simp only [yG] at h;have ih:=aaV off r (j+1) (cells.setIfInBounds (off+j) v) (by simp;omega);simp only [List.zipIdx_cons,List.foldl_cons];rw [ih];have aW:off+j<cells.toList.length:=by simp;omega
  have h1:(cells.setIfInBounds (off+j) v).toList=cells.toList.set (off+j) v:=by simp
  rw [h1,show off+(j+1)=off+j+1 by omega];have h2:(cells.toList.set (off+j) v).take (off+j+1)=cells.toList.take (off+j)++[v]:=by
   rw [List.take_succ_eq_append_getElem (by simpa using aW)];simp [List.take_set_of_le]
  have h3:(cells.toList.set (off+j) v).drop (off+j+1+r.length)=cells.toList.drop (off+j+(r.length+1)):=by
   rw [List.drop_set_of_lt (by omega)];congr 1;omega
  rw [h2,h3]
  simp
section
variable {O:bl} {H:Hint} {m:Mp} {S:Nat->Prop} {w:yh} {tm:Env} {a:Act}
def LD (hH:fo O H) (ht:b7 O m S w tm a.tmps) {place:Nat->Option (Nat×Nat)}:∀(parts:List (Nat×xo)) (ps:List (Nat×Nat×X)) (zero cs:List AV) (cells:Array yf),
  partsOf H place parts=some ps->az O.af m S w zero cells.toList->fill tm zero ps=some cs->
  ∃out,Instr.fill place cells (parts.map fun p=>(p.1,a.eval p.2))=some out/\az O.af m S w cs out.toList
 | [],ps,zero,cs,cells,hp,hz,hf=>by
  simp only [partsOf,yd] at hp;subst hp;simp only [fill,yd] at hf;subst hf;exact ⟨cells,rfl,hz⟩
 | (i,x)::r,ps,zero,cs,cells,hp,hz,hf=>by
  simp only [partsOf] at hp
  cases fe:place i with
  | none=>simp [fe] at hp
  | some q=>
   obtain ⟨o,s⟩:=q;simp only [fe] at hp
   cases gF:partsOf H place r with
   | none=>simp [gF] at hp
   | some l=>
    simp only [gF,yd] at hp;subst hp;simp only [fill] at hf
    cases hc:(yx (cellsOf (aE tm (aK H x))).length s&&yF (o+s) zero.length&&cm (cellsOf (aE tm (aK H x)))) with
    | false=>rw [hc] at hf;cases hf
    | true=>
     rw [hc] at hf;simp only [yB] at hf;simp only [ye] at hc;have hs:=ym hc.1.1;have hle:=yA hc.1.2;have hrx:=PY (cw hH ht x) hc.2;have mO:=il _ _ hrx;have nE:=il _ _ hz;have eh:(a.eval x).cells.size=s:=by rw [<-hs,<-mO];simp
     have rC:cells.size=zero.length:=by rw [<-nE];simp
     have ax5:=aaV o (a.eval x).cells.toList 0 cells (by simp;omega);have fk:az O.af m S w (over o (cellsOf (aE tm (aK H x))) zero)
       ((a.eval x).cells.zipIdx.foldl (fun (cs:Array yf) (p:yf×Nat)=>cs.setIfInBounds (o+p.2) p.1) cells).toList:=by
      rw [<-Array.foldl_toList,Array.toList_zipIdx,ax5];simp only [over,Nat.add_zero];rw [show (a.eval x).cells.toList.length=(cellsOf (aE tm (aK H x))).length from mO];exact lA (lA (Dr o hz) hrx) (G2 _ hz)
     obtain ⟨out,h1,h2⟩:=LD hH ht r l _ cs _ gF fk hf;refine ⟨out,?_,h2⟩;simp only [xe,Instr.fill,fe,eh];rw [yr (by simp;omega)];exact h1
end
end
section
open Go
def aaW (p q:ByteArray):(p==q)=cU (lI p) (lI q):=by
 have h:(p==q)=(p.data==q.data):=by cases p;cases q;rfl
 rw [h,aaS,ByteArray.toList_eq,ByteArray.toList_eq];rw [Bool.eq_iff_iff,yab,yab];constructor
 ·intro e;rw [e]
 ·intro e;have:=congrArg List.toArray e;simpa using this
def MH:vj->Bool
 | .bool | .int _ | .string=>true
 | _=>false
def fits (d:vj) (v:AV):Bool:=
 match d,v with
 | .int _,.int _ _ | .string,.str _ | .bool,.bool _=>true
 | _,_=>false
def Found (af:Nat->Nat) (m:Mp) (S:Nat->Prop) (w:yh) (f:Option (Option (Nat×yf))):Option AV->Prop
 | none=>f=some none
 | some v=>∃j u,f=some (some (j,u))/\ah af m S w v u
section
variable {O:bl} {af:Nat->Nat} {m:Mp} {S:Nat->Prop} {w:yh}
def abK {vk vk':AV} {k k':yf} {r:Bool} {d:vj} (hk:ah af m S w vk k) (nF:ah af m S w vk' k') (h:Ea vk vk'=some r)
  (hd:fits d vk=true):Instr.sameNow d k k'=some r:=by
 unfold Ea at h
 split at h
 ·rename_i j x j' y;simp only [ah] at hk nF;subst hk;subst nF;by_cases hj:j=j'
  ·simp only [hj,xA,yd] at h;subst hj;cases d<;>simp [fits] at hd
   simpa [Instr.sameNow] using h
  ·simp [hj] at h
 ·simp only [ah] at hk nF;obtain ⟨s,rfl,rfl⟩:=hk;obtain ⟨s',rfl,rfl⟩:=nF;simp only [yd] at h;cases d<;>simp [fits] at hd
  simp only [Instr.sameNow,aaW];rw [<-h];rfl
 ·simp only [ah] at hk nF;subst hk;subst nF;simp only [yd] at h;cases d<;>simp [fits] at hd
  simp [Instr.sameNow,h]
 ·cases h
def Qj {vk:AV} {k:yf} {d:vj} (hk:ah af m S w vk k)
  (hd:fits d vk=true):∀(ks vs:List AV) (es:List uC) (i:Nat) (r:Option AV),
  az af m S w ks (es.map (·.key))->az af m S w vs (es.map (·.val))->B6 vk ks vs=some r->Found af m S w (Instr.findNow d k es i) r
 | [],vs,es,i,r,h1,h2,h=>by
  simp only [az,List.map_eq_nil_iff] at h1;subst h1;simp only [B6,yd] at h;subst h;rfl
 | c::ks,[],es,i,r,h1,h2,h=>by simp only [B6] at h;cases h
 | c::ks,v::vs,es,i,r,h1,h2,h=>by
  cases es with
  | nil=>simp [az] at h1
  | cons e es=>
   simp only [xe,az,List.cons.injEq] at h1 h2;obtain ⟨u,t,⟨rfl,rfl⟩,hc,Oo⟩:=h1;obtain ⟨u',t',⟨rfl,rfl⟩,hv,zn⟩:=h2;simp only [B6] at h
   cases gG:Ea vk c with
   | none=>simp [gG] at h
   | some b=>
    have hs:=abK (d:=d) hk hc gG hd
    cases b with
    | true=>
     simp only [gG,yd] at h;subst h;exact ⟨i,e.val,by simp [Instr.findNow,hs],hv⟩
    | false=>
     simp only [gG] at h;have ih:=Qj hk hd ks vs es (i+1) r Oo zn h;simpa [Instr.findNow,hs] using ih
def KF {P:y8} {kt:yD} {d:vj} (hu:P.underlying kt=some d) (hd:MH d=true) (b:Bool) (k:yf):(Instr.checkKey b 10000 kt k).run P w= .ok () w:=by
 have:∀n,(Instr.checkKey b (n+1) kt k).run P w= .ok () w:=by
  intro n;cases d<;>simp [MH] at hd<;>simp [Instr.checkKey,run_underlying hu]
 exact this 9999
def at4 {t kt e:yD} {d:vj} {ok:Bool} {hp:Hp} {ct:Nat} {vx vk v:AV} {x k zero:yf} (hh:aT O m S w hp ct) (hu:O.P.underlying t=some (.map kt e)) (hk:O.P.underlying kt=some d) (hd:MH d=true)
  (hdk:fits d vk=true)
  (hz:(zeroValue e).run O.P w= .ok zero w) (hx:ah O.af m S w vx x) (rD:ah O.af m S w vk k) {z:AV} (Fh:ah O.af m S w z zero)
  {r:Option AV}
  (hr:Ak hp vk vx=some r)
  (hv:(match r with | some u=>(bif ok then AV.ae [u,.bool true] else u) | none=>(bif ok then AV.ae [z,.bool false] else z))=v):
  ∃u,(Instr.lookup t x k ok).run O.P w= .ok u w/\ah O.af m S w v u:=by
 have fin:∀(u:AV) (uu:yf) (b:Bool),ah O.af m S w u uu->ah O.af m S w (bif ok then AV.ae [u,.bool b] else u) (if ok then .tuple #[uu,.bool b] else uu):=by
  intro u uu b h
  cases ok with
  | true=>simp only [yB,xA,ah,az];exact ⟨_,rfl,_,_,rfl,h,_,_,rfl,rfl,rfl⟩
  | false=>simpa using h
 have body:∀(x':yf) (es:Array uC),((x'= .map none/\es=#[])\/∃b clock,x'= .map (some b)/\w.heap[b]? =some (.map es clock))->Found O.af m S w (Instr.findNow d k es.toList 0) r->
   ∃u,(Instr.lookup t x' k ok).run O.P w= .ok u w/\ah O.af m S w v u:=by
  intro x' es hl hf
  cases r with
  | none=>
   have AX:Instr.findNow d k es.toList 0=some none:=hf;refine ⟨if ok then .tuple #[zero,.bool false] else zero,?_,by rw [<-hv];exact fin z zero false Fh⟩
   rcases hl with ⟨rfl,rfl⟩ | ⟨b,clock,rfl,hb⟩
   ·have Sf:Instr.findNow d k [] 0=some none:=rfl;simp [Instr.lookup,run_underlying hu,KF hk hd,Instr.findKey,run_underlying hk,Sf,hz]
   ·simp [Instr.lookup,run_underlying hu,getObj,Sem.run,hb,KF hk hd,Instr.findKey,run_underlying hk,AX,hz]
  | some v'=>
   obtain ⟨j,u,h1,h2⟩:=hf;refine ⟨if ok then .tuple #[u,.bool true] else u,?_,by rw [<-hv];exact fin v' u true h2⟩
   rcases hl with ⟨rfl,rfl⟩ | ⟨b,clock,rfl,hb⟩
   ·have Sf:Instr.findNow d k [] 0=some none:=rfl;rw [show (#[]:Array uC).toList=[] from rfl,Sf] at h1;cases h1
   ·simp [Instr.lookup,run_underlying hu,getObj,Sem.run,hb,KF hk hd,Instr.findKey,run_underlying hk,h1]
 cases vx<;>simp only [Ak,reduceCtorEq] at hr
 case jy=>
  simp only [yd] at hr;subst hr;simp only [ah] at hx;subst hx;exact body _ #[] (.inl ⟨rfl,rfl⟩) rfl
 case map id=>
  simp only [ah] at hx;obtain ⟨p,hm,rfl⟩:=hx
  split at hr
  case h_2=>cases hr
  rename_i X1 ks vs B9;obtain ⟨p',es,clock,gE,hb,h1,h2,_⟩:=hh.obj id _ _ B9 hm;rw [hm] at gE;injection gE with gE;subst gE
  exact body _ es (.inr ⟨_,_,rfl,hb⟩) (Qj rD hdk ks vs es.toList 0 r h1 h2 hr)
 case iV ks vs=>
  simp only [ah] at hx;obtain ⟨b,es,clock,rfl,_,_,_,hb,h1,h2⟩:=hx;exact body _ es (.inr ⟨_,_,rfl,hb⟩) (Qj rD hdk ks vs es.toList 0 r h1 h2 hr)
end
end
section
open Go
def GM:∀(k1 k2:List Nat) (a b:List AV) (r:Bool),eb (k1++k2) a b=some r->
  ∃r1 r2,eb k1 (a.take k1.length) (b.take k1.length)=some r1/\eb k2 (a.drop k1.length) (b.drop k1.length)=some r2/\r=(r1&&r2)
 | [],k2,a,b,r,h=>⟨true,r,by simp [eb],by simpa using h,by simp⟩
 | k::k1,k2,[],b,r,h=>by
  simp only [xh] at h;unfold eb at h
  grind
 | k::k1,k2,x::a,[],r,h=>by
  unfold eb at h
  grind
 | k::k1,k2,x::a,y::b,r,h=>by
  have step:∀(q:Bool) (f:Bool->Bool),(match eb (k1++k2) a b with | some r=>some (f r) | none=>none)=some q->∃r0,eb (k1++k2) a b=some r0/\q=f r0:=by grind
  unfold eb at h
  split at h
  ·grind
  ·rename_i e1 e2 e3;obtain ⟨rfl,rfl⟩:=e1;obtain ⟨rfl,rfl⟩:=e2;obtain ⟨rfl,rfl⟩:=e3;obtain ⟨r0,h0,rfl⟩:=step r _ h;obtain ⟨r1,r2,h1,h2,rfl⟩:=GM k1 k2 _ _ r0 h0;exact ⟨_,r2,by simp only [yG,wq,eb,h1],by simpa using h2,(tj _ _ _).symm⟩
  ·rename_i e1 e2 e3;obtain ⟨rfl,rfl⟩:=e1;obtain ⟨rfl,rfl⟩:=e2;obtain ⟨rfl,rfl⟩:=e3
   split at h
   ·rename_i hk;obtain ⟨r0,h0,rfl⟩:=step r _ h;obtain ⟨r1,r2,h1,h2,rfl⟩:=GM k1 k2 _ _ r0 h0;exact ⟨_,r2,by simp only [yG,wq,eb,h1,hk,xA],by simpa using h2,(tj _ _ _).symm⟩
   ·cases h
  ·rename_i e1 e2 e3;obtain ⟨rfl,rfl⟩:=e1;obtain ⟨rfl,rfl⟩:=e2;obtain ⟨rfl,rfl⟩:=e3;obtain ⟨r0,h0,rfl⟩:=step r _ h;obtain ⟨r1,r2,h1,h2,rfl⟩:=GM k1 k2 _ _ r0 h0;exact ⟨_,r2,by simp only [yG,wq,eb,h1],by simpa using h2,(tj _ _ _).symm⟩
  ·cases h
def ZU:∀(ks:List Nat) (a b:List AV) (r:Bool),eb ks a b=some r->a.length=ks.length/\b.length=ks.length
 | [],a,b,r,h=>by
  unfold eb at h
  grind
 | k::ks,[],b,r,h=>by
  unfold eb at h
  grind
 | k::ks,x::a,[],r,h=>by
  unfold eb at h
  grind
 | k::ks,x::a,y::b,r,h=>by
  have:∃r0,eb ks a b=some r0:=by
   cases he:eb ks a b with
   | some r0=>exact ⟨r0,rfl⟩
   | none=>unfold eb at h;split at h<;>simp_all
  obtain ⟨r0,h0⟩:=this
  have:=ZU ks a b r0 h0
  simp [this]
def Fi (P:y8) (t:yD) (x:yf) (xs:List yf):Prop:=(dE P t=some true/\x= .agg xs.toArray)\/(dE P t=some false/\xs=[x])
section
variable {P:y8} {af:Nat->Nat} {m:Mp} {S:Nat->Prop} {w:yh}
def PI {t:yD} {ag:Bool} (ha:dE P t=some ag):(isAgg t).run P w= .ok ag w:=by
 unfold dE at ha
 cases hu:P.underlying t with
 | none=>simp [hu] at ha
 | some d=>cases d<;>simp_all [isAgg,underlying]
def apw {t:yD} {s o:Nat} {xs:List yf} (hz:cK P t=some s) (ha:∃ag,dE P t=some ag) (h1:dE P t=some false->s=1) (hl:o+s<=xs.length):
  ∃u,(part t xs.toArray o).run P w= .ok u w/\Fi P t u ((xs.drop o).take s):=by
 obtain ⟨ag,ha⟩:=ha
 cases ag with
 | true=>
  refine ⟨.agg ((xs.drop o).take s).toArray,?_,.inl ⟨ha,rfl⟩⟩;simp [part,PI ha,mW hz,List.extract_eq_take_drop]
 | false=>
  have hs:=h1 ha;subst hs;have aW:o<xs.length:=by omega
  refine ⟨xs[o],?_,.inr ⟨ha,?_⟩⟩
  ·simp [part,PI ha,List.getElem?_eq_getElem aW]
  ·rw [List.drop_eq_getElem_cons aW,wq,List.take_zero]
def anI {n:Nat} {t:yD} {ks:List Nat} (h:kinds P n t=some ks):∃ag,dE P t=some ag/\(ag=false->ks.length=1):=by
 cases n with
 | zero=>simp [kinds] at h
 | succ n=>
  unfold kinds at h;unfold dE
  split at h<;>simp_all
  all_goals (rw [<-h];rfl)
def RQ (P:y8) (af:Nat->Nat) (m:Mp) (S:Nat->Prop) (w:yh) (n:Nat):Prop:=
 ∀(t:yD) (ks:List Nat),kinds P n t=some ks->P.stoodInHeld t=false->∀(d:Nat),n<=d->∀(xs ys:List yf) (cs dP:List AV) (r:Bool) (x y:yf),
  az af m S w cs xs->az af m S w dP ys->eb ks cs dP=some r->Fi P t x xs->Fi P t y ys->(Op.equalIn d t x y).run P w= .ok r w
def aaX {n:Nat} (ih:RQ P af m S w n) {t:yD} {ks:List Nat} {s o d:Nat} (hk:kinds P n t=some ks) (aP:P.stoodInHeld t=false) (hz:cK P t=some s) (hs:ks.length=s) (hd:n<=d)
  {xs ys:List yf} {cs dP:List AV} (h1:az af m S w cs xs) (h2:az af m S w dP ys) {r:Bool} (he:eb ks ((cs.drop o).take s) ((dP.drop o).take s)=some r):
  ∃u u',(part t xs.toArray o).run P w= .ok u w/\(part t ys.toArray o).run P w= .ok u' w/\(Op.equalIn d t u u').run P w= .ok r w:=by
 obtain ⟨ag,ha,h1s⟩:=anI hk;obtain ⟨l1,l2⟩:=ZU _ _ _ _ he;have q1:=il _ _ h1;have q2:=il _ _ h2;simp only [yI,xT] at l1 l2;have mP:dE P t=some false->s=1:=fun h=>by
  grind
 have mO:o+s<=xs.length\/s=0:=by omega
 have nE:o+s<=ys.length\/s=0:=by omega
 have get:∀(zs:List yf),(o+s<=zs.length\/s=0)->∃u,(part t zs.toArray o).run P w= .ok u w/\Fi P t u ((zs.drop o).take s):=by
  intro zs hl;rcases hl with hl | hl
  ·exact apw hz ⟨ag,ha⟩ mP hl
  ·subst hl
   cases ag with
   | false=>have:=mP ha;omega
   | true=>
    refine ⟨.agg ((zs.drop o).take 0).toArray,?_,.inl ⟨ha,rfl⟩⟩;simp [part,PI ha,mW hz]
 obtain ⟨u,p1,v1⟩:=get xs mO;obtain ⟨u',p2,v2⟩:=get ys nE;exact ⟨u,u',p1,p2,ih t ks hk aP d hd _ _ _ _ r u u' (Dr s (G2 o h1)) (Dr s (G2 o h2)) he v1 v2⟩
def ZV {n:Nat} (ih:RQ P af m S w n) {d:Nat} (hd:n<=d) {xs ys:List yf} {cs dP:List AV} (h1:az af m S w cs xs) (h2:az af m S w dP ys):
  ∀(fs:List Field) (o:Nat) (ks:List Nat) (r:Bool),Dl P (fun u=>kinds P n u) fs o=some ks->eb ks (cs.drop o) (dP.drop o)=some r->(Op.eqFields d xs.toArray ys.toArray fs).run P w= .ok r w
 | [],o,ks,r,h,he=>by
  simp only [Dl,yd] at h;unfold eb at he
  split at he<;>simp_all [Op.eqFields]
 | f::fs,o,ks,r,h,he=>by
  simp only [Dl] at h
  cases hk:kinds P n f.type with
  | none=>simp [hk] at h
  | some kf=>
   cases hz:cK P f.type with
   | none=>simp [hk,hz] at h
   | some s=>
    simp only [hk,hz] at h
    cases hc:(f.name != "_"&&yx f.offset o&&yx kf.length s&& !P.stoodInHeld f.type) with
    | false=>rw [hc] at h;cases h
    | true=>
     rw [hc] at h;simp only [yB] at h;simp only [ye,bne_iff_ne,tk] at hc;obtain ⟨⟨⟨hn,ho⟩,hl⟩,aP⟩:=hc;have ho:=ym ho;have hl:=ym hl
     cases hr:Dl P (fun u=>kinds P n u) fs (o+s) with
     | none=>simp [hr] at h
     | some kr=>
      simp only [hr,yd] at h;subst h;obtain ⟨r1,r2,e1,e2,rfl⟩:=GM _ _ _ _ _ he;rw [hl] at e1 e2;rw [vH,vH] at e2;obtain ⟨u,u',p1,p2,p3⟩:=aaX ih (o:=o) hk aP hz hl hd h1 h2 e1;have rest:=ZV ih hd h1 h2 fs (o+s) kr r2 hr e2;subst ho;simp only [Op.eqFields]
      cases r1 with
      | true=>simp [hn,p1,p2,p3,rest]
      | false=>simp [hn,p1,p2,p3]
def aaf {n:Nat} (ih:RQ P af m S w n) {d:Nat} (hd:n<=d) {xs ys:List yf} {cs dP:List AV} (h1:az af m S w cs xs) (h2:az af m S w dP ys)
  {e:yD} {ks:List Nat} {s:Nat} (hk:kinds P n e=some ks) (aP:P.stoodInHeld e=false) (hz:cK P e=some s) (hl:ks.length=s):
  ∀(k j:Nat) (r:Bool),eb (yq k ks).flatten (cs.drop (j*s)) (dP.drop (j*s))=some r->(Op.eqItems d e s xs.toArray ys.toArray (List.range' j k)).run P w= .ok r w
 | 0,j,r,he=>by
  unfold eb at he
  split at he<;>simp_all [Op.eqItems]
 | k+1,j,r,he=>by
  obtain ⟨r1,r2,e1,e2,rfl⟩:=GM _ _ _ _ _ he;rw [hl] at e1 e2;rw [vH,vH,show j*s+s=(j+1)*s by rw [wI,ybJ]] at e2;obtain ⟨u,u',p1,p2,p3⟩:=aaX ih (o:=j*s) hk aP hz hl hd h1 h2 e1;have rest:=aaf ih hd h1 h2 hk aP hz hl k (j+1) r2 e2;rw [List.range'_succ];simp only [Op.eqItems]
  cases r1 with
  | true=>simp [p1,p2,p3,rest]
  | false=>simp [p1,p2,p3]
def Rh:∀(n:Nat) (t:yD) (ks:List Nat),kinds P n t=some ks->P.stoodInHeld t=false->∀(d:Nat),n<=d->∀(xs ys:List yf) (cs dP:List AV) (r:Bool) (x y:yf),
  az af m S w cs xs->az af m S w dP ys->eb ks cs dP=some r->Fi P t x xs->Fi P t y ys->(Op.equalIn d t x y).run P w= .ok r w
 | 0,t,ks,h,_,_,_,_,_,_,_,_,_,_,_,_,_,_,_=>by simp [kinds] at h
 | n+1,t,ks,h,aP,0,hd,_,_,_,_,_,_,_,_,_,_,_,_=>by omega
 | n+1,t,ks,h,aP,d+1,hd,xs,ys,cs,dP,r,x,y,h1,h2,he,hx,hy=>by
  unfold kinds at h;have one:∀{k:Nat},ks=[k]->dE P t=some false->∃c c',cs=[c]/\dP=[c']/\ah af m S w c x/\ah af m S w c' y:=by
   intro k hk ha;rcases hx with ⟨hx,_⟩ | ⟨_,rfl⟩
   ·grind
   rcases hy with ⟨hy,_⟩ | ⟨_,rfl⟩
   ·grind
   have l1:=il _ _ h1;have l2:=il _ _ h2
   match cs,dP,l1,l2 with
   | [c],[c'],_,_=>
    simp only [az] at h1 h2
    grind
  split at h
  ·rename_i hu;simp only [yd] at h;have ha:dE P t=some false:=by simp [dE,hu]
   obtain ⟨c,c',rfl,rfl,r1,r2⟩:=one h.symm ha;subst h;unfold eb at he
   split at he<;>simp_all [eb]
   subst he;simp only [ah] at r1 r2;subst r1;subst r2;simp [Op.equalIn,run_underlying hu]
  ·rename_i k0 hu;simp only [yd] at h;have ha:dE P t=some false:=by simp [dE,hu]
   obtain ⟨c,c',rfl,rfl,r1,r2⟩:=one h.symm ha;subst h;unfold eb at he
   split at he<;>simp_all [eb]
   obtain ⟨hk,he⟩:=he;subst he;simp only [ah] at r1 r2;subst r1;subst r2;simp [Op.equalIn,run_underlying hu]
  ·rename_i hu;simp only [yd] at h;have ha:dE P t=some false:=by simp [dE,hu]
   obtain ⟨c,c',rfl,rfl,r1,r2⟩:=one h.symm ha;subst h;unfold eb at he
   split at he<;>simp_all [eb]
   subst he;simp only [ah] at r1 r2;obtain ⟨s,rfl,rfl⟩:=r1;obtain ⟨s',rfl,rfl⟩:=r2;simp only [Op.equalIn,Sem.run_bind,run_underlying hu,Result.andThen_ok,Sem.run_pure,aaW];rfl
  ·rename_i fs hu;have ha:dE P t=some true:=by simp [dE,hu]
   rcases hx with ⟨_,rfl⟩ | ⟨hx,_⟩
   ·rcases hy with ⟨_,rfl⟩ | ⟨hy,_⟩
    ·have hf:P.fieldsOf t=fs:=by simp [Program.fieldsOf,hu]
     rw [run_equalIn_struct w d t _ _ (by rw [hf];exact hu) aP,hf]
     exact ZV (Rh n) (by omega) h1 h2 fs.toList 0 ks r h (by simpa using he)
    ·rw [ha] at hy;cases hy
   ·rw [ha] at hx;cases hx
  ·rename_i k e hu;have ha:dE P t=some true:=by simp [dE,hu]
   rcases hx with ⟨_,rfl⟩ | ⟨hx,_⟩
   ·rcases hy with ⟨_,rfl⟩ | ⟨hy,_⟩
    ·cases hk:kinds P n e with
     | none=>simp [hk] at h
     | some ke=>
      cases hz:cK P e with
      | none=>simp [hk,hz] at h
      | some s=>
       simp only [hk,hz] at h
       cases hc:(yx ke.length s&& !P.stoodInHeld e) with
       | false=>rw [hc] at h;cases h
       | true=>
        rw [hc] at h;simp only [yB,yd] at h;subst h;simp only [ye,tk] at hc;have fk:=hz;unfold cK at fk
        cases hi:P.info? e with
        | none=>simp [hi] at fk
        | some i=>
         simp only [hi,yd] at fk;have rC:P.cellsOf e=s:=by simp [Program.cellsOf,hi,fk]
         rw [run_equalIn_array w d _ _ hu hi,rC,List.range_eq_range'];exact aaf (Rh n) (by omega) h1 h2 hk hc.2 hz (ym hc.1) k 0 r (by simpa using he)
    ·rw [ha] at hy;cases hy
   ·rw [ha] at hx;cases hx
  ·cases h
end
end
section
open Go
def dz {tm:Env} {hp:Hp} {v:AV} (h:bw tm hp bad=some v):False:=by simp [bad,bw] at h
section
variable {O:bl} {H:Hint} {m:Mp} {S:Nat->Prop} {w:yh} {tm:Env} {a:Act} {hp:Hp} {ct:Nat}
def arA {af:Nat->Nat} {va vb v:AV} {x y:yf} (hx:ah af m S w va x) (hy:ah af m S w vb y) (h:VE.min2 va vb=some v):∃u,(Builtin.min2 x y).run O.P w= .ok u w/\ah af m S w v u:=by
 unfold VE.min2 at h
 split at h
 ·simp only [ah] at hx hy;subst hx;subst hy;simp only [yd] at h;subst h;exact ⟨_,by simp only [Builtin.min2,Sem.run_pure];rfl,by simp only [ah]⟩
 ·rename_i k p k' q;simp only [ah] at hx hy;subst hx;subst hy
  cases ho:k.format.order p q with
  | none=>simp [ho] at h
  | some c=>cases c<;>(simp only [ho,yd] at h;subst h;exact ⟨_,by simp only [Builtin.min2,ho,Sem.run_pure];rfl,by simp only [ah]⟩)
 ·cases h
def arB {af:Nat->Nat} {va vb v:AV} {x y:yf} (hx:ah af m S w va x) (hy:ah af m S w vb y) (h:VE.max2 va vb=some v):∃u,(Builtin.max2 x y).run O.P w= .ok u w/\ah af m S w v u:=by
 unfold VE.max2 at h
 split at h
 ·simp only [ah] at hx hy;subst hx;subst hy;simp only [yd] at h;subst h;exact ⟨_,by simp only [Builtin.max2,Sem.run_pure];rfl,by simp only [ah]⟩
 ·rename_i k p k' q;simp only [ah] at hx hy;subst hx;subst hy
  cases ho:k.format.order p q with
  | none=>simp [ho] at h
  | some c=>cases c<;>(simp only [ho,yd] at h;subst h;exact ⟨_,by simp only [Builtin.max2,ho,Sem.run_pure];rfl,by simp only [ah]⟩)
 ·cases h
def QK {af:Nat->Nat} {f:AV->AV->Option AV} {g:yf->yf->Sem yf} (hfg:∀va vb v x y,ah af m S w va x->ah af m S w vb y->f va vb=some v->∃u,(g x y).run O.P w= .ok u w/\ah af m S w v u):
  ∀(l:List AV) (us:List yf) (va v:AV) (x:yf),ah af m S w va x->az af m S w l us->Aj f va l=some v->∃u,(us.foldlM g x).run O.P w= .ok u w/\ah af m S w v u
 | [],us,va,v,x,hx,hl,h=>by
  simp only [az] at hl;subst hl;simp only [Aj,yd] at h;subst h;exact ⟨x,by simp,hx⟩
 | b::l,us,va,v,x,hx,hl,h=>by
  simp only [az] at hl;obtain ⟨u,r,rfl,hu,hr⟩:=hl;simp only [Aj] at h
  cases hf:f va b with
  | none=>simp [hf] at h
  | some c=>
   simp only [hf] at h;obtain ⟨u1,h1,h2⟩:=hfg _ _ _ _ _ hx hu hf;obtain ⟨u2,h3,h4⟩:=QK hfg l r c v u1 h2 hr h;exact ⟨u2,by simp [h1,h3],h4⟩
def Ri {t:yD} {vx v:AV} {x:yf} {ty:yD} (hh:aT O m S w hp ct) (hx:ah O.af m S w vx x)
  {k:Nat} (hu:(k=0/\O.P.underlying t=some .string)\/(k=1/\∃e,O.P.underlying t=some (.slice e))\/(k=2/\∃kt e,O.P.underlying t=some (.map kt e)))
  (h:fp hp k vx=some v):∃u,(Builtin.len_ #[t] ty #[x]).run O.P w= .ok u w/\ah O.af m S w v u:=by
 rcases hu with ⟨rfl,hu⟩ | ⟨rfl,e,hu⟩ | ⟨rfl,kt,e,hu⟩
 all_goals cases vx<;>simp only [fp,reduceCtorEq] at h
 case inl.str s=>
  simp only [ah] at hx;obtain ⟨b,rfl,rfl⟩:=hx;simp only [yd] at h;subst h;refine ⟨_,by simp [Builtin.len_,run_underlying hu];rfl,?_⟩
  simp only [ah,goInt];rw [Lib.size_eq];simp
 case inr.inl.aa=>
  simp only [ah] at hx;subst hx;simp only [yd] at h;subst h;exact ⟨_,by simp [Builtin.len_,run_underlying hu];rfl,by simp [ah,goInt]⟩
 case inr.inl.ai ex n cs=>
  simp only [ah] at hx;rcases hx with ⟨b,o,c,rfl,_⟩ | ⟨a,rfl,rfl,rfl⟩
  all_goals
   simp only [yd] at h;subst h;exact ⟨_,by simp [Builtin.len_,run_underlying hu];rfl,by simp [ah,goInt]⟩
 case inr.inl.aC id o n=>
  simp only [ah] at hx;obtain ⟨p,c,_,rfl,_⟩:=hx;simp only [yd] at h;subst h;exact ⟨_,by simp [Builtin.len_,run_underlying hu];rfl,by simp [ah,goInt]⟩
 case inr.inr.jy=>
  simp only [ah] at hx;subst hx;simp only [yd] at h;subst h;exact ⟨_,by simp [Builtin.len_,run_underlying hu];rfl,by simp [ah,goInt]⟩
 case inr.inr.iV ks vs=>
  simp only [ah] at hx;obtain ⟨b,es,clock,rfl,_,_,_,hb,h1,_⟩:=hx;simp only [yd] at h;subst h;refine ⟨_,by simp [Builtin.len_,run_underlying hu,getObj,Sem.run,hb];rfl,?_⟩
  have:=il _ _ h1
  simp only [ah,goInt];rw [<-this];simp
 case inr.inr.map id=>
  simp only [ah] at hx;obtain ⟨p,hm,rfl⟩:=hx
  split at h
  case h_2=>cases h
  rename_i X1 ks vs B9;simp only [yd] at h;subst h;obtain ⟨p',es,clock,gE,hb,h1,_⟩:=hh.obj id _ _ B9 hm;rw [hm] at gE;injection gE with gE;subst gE
  refine ⟨_,by simp [Builtin.len_,run_underlying hu,getObj,Sem.run,hb];rfl,?_⟩
  have:=il _ _ h1
  simp only [ah,goInt];rw [<-this];simp
end
end
section
open Go
section
variable {O:bl} {H:Hint} {m:Mp} {S:Nat->Prop} {w:yh} {tm:Env} {a:Act} {hp:Hp} {ct:Nat}
def DE {t:yD} {z:AV} (h:mB O.P t=some z):∃v,(zeroValue t).run O.P w= .ok v w/\z=er v:=by
 unfold mB at h
 cases hi:O.P.info? t with
 | none=>simp [hi] at h
 | some i=>
  simp only [hi] at h
  cases hz:i.zero with
  | none=>simp [hz] at h
  | some v=>
   simp only [hz,yd] at h;exact ⟨v,by simp [zeroValue,typeInfo,hi,hz],h.symm⟩
def Reads (O:bl) (m:Mp) (S:Nat->Prop) (w:yh) (a:Act) (o:y5) (v:AV):Prop:=
 ∃u,(execOp a.eval o).run O.P w= .ok (.value u) w/\ah O.af m S w v u
def js {o:y5} {v:AV} {s:Sem yf} (he:execOp a.eval o=(do pure (.value (<-s)):Sem Next)) (h:∃u,s.run O.P w= .ok u w/\ah O.af m S w v u):Reads O m S w a o v:=by
 obtain ⟨u,h1,h2⟩:=h;exact ⟨u,by rw [he];simp [h1],h2⟩
def apx {o:y5} {op:BinOp} {t ty:yD} {x y:xo} {k:Nat} {v:AV} (hH:fo O H) (ht:b7 O m S w tm a.tmps) (ho:o.op= .binOp op t x y ty)
  (hv:bw tm hp (a6 O.P H k o)=some v):Reads O m S w a o v:=by
 have rx:=cw hH ht x;have ry:=cw hH ht y;have guard:∀{u:yf},(∀xs ys,¬(a.eval x= .agg xs/\a.eval y= .agg ys))\/O.P.eqGuardType O.P.depth t=false->a.eval x≠.nilIface->(xJ op t (a.eval x) (a.eval y)).run O.P w= .ok u w->
   (do eqGuard op t x y (a.eval x) (a.eval y);xJ op t (a.eval x) (a.eval y):Sem yf).run O.P w= .ok u w:=by
  intro u h1 h2 h3
  simp only [Sem.run_bind,amV (P:=O.P) (w:=w) (t:=t) (op:=op) (x:=x) (y:=y) (h1.symm) h2,Result.andThen_ok,h3]
 have plain:bw tm hp (.bin op (aK H x) (aK H y))=some v->Reads O m S w a o v:=by
  intro hv;simp only [bw] at hv;obtain ⟨u,h1,h2⟩:=apt (P:=O.P) (t:=t) rx ry hv
  refine js (s:=do eqGuard op t x y (a.eval x) (a.eval y);xJ op t (a.eval x) (a.eval y)) (by simp only [execOp,ho]) ⟨u,guard (.inl ?_) ?_ h1,h2⟩
  ·rintro xs ys ⟨e1,e2⟩;rw [e1] at rx;unfold VE.binOp at hv
   split at hv
   ·rename_i h3 _;rw [h3] at rx;simp [ah] at rx
   ·rename_i h3 _;rw [h3] at rx;simp [ah] at rx
   ·rename_i h3 _;rw [h3] at rx;simp [ah] at rx
   ·cases hv
  ·intro e1;rw [e1] at rx;unfold VE.binOp at hv
   split at hv
   ·rename_i h3 _;rw [h3] at rx;simp [ah] at rx
   ·rename_i h3 _;rw [h3] at rx;simp [ah] at rx
   ·rename_i h3 _;rw [h3] at rx;simp [ah] at rx
   ·cases hv
 have other:∀(ne:Bool) (kd:VE.Ok),(op= .eql/\ne=false\/op= .neq/\ne=true)->(∀r,jj kd (aE tm (aK H x)) (aE tm (aK H y))=some r->(Op.equal t (a.eval x) (a.eval y)).run O.P w= .ok r w/\
    ((∀xs ys,¬(a.eval x= .agg xs/\a.eval y= .agg ys))\/O.P.eqGuardType O.P.depth t=false)/\a.eval x≠.nilIface/\
    ∀q:Bool,(op= .eql->xJ op t (a.eval x) (a.eval y)=(do pure (.bool (<-Op.equal t (a.eval x) (a.eval y)))))/\(op= .neq->xJ op t (a.eval x) (a.eval y)=(do pure (.bool (!(<-Op.equal t (a.eval x) (a.eval y)))))))->
   bw tm hp (.eq ne kd (aK H x) (aK H y))=some v->Reads O m S w a o v:=by
  intro ne kd jl kQ hv;simp only [bw] at hv
  cases he:jj kd (aE tm (aK H x)) (aE tm (aK H y)) with
  | none=>simp [he] at hv
  | some r=>
   simp only [he,yd] at hv;subst hv;obtain ⟨h1,h2,h3,h4⟩:=kQ r he;obtain ⟨h5,h6⟩:=h4 true
   refine js (s:=do eqGuard op t x y (a.eval x) (a.eval y);xJ op t (a.eval x) (a.eval y)) (by simp only [execOp,ho]) ⟨.bool (ne !=r),guard h2 h3 ?_,by simp [ah]⟩
   rcases jl with ⟨rfl,rfl⟩ | ⟨rfl,rfl⟩
   ·rw [h5 rfl];simp [h1]
   ·rw [h6 rfl];simp [h1]
 have pB:O.P.underlying t=some .bool->∀r,jj .b (aE tm (aK H x)) (aE tm (aK H y))=some r->∃p q,a.eval x= .bool p/\a.eval y= .bool q/\(Op.equal t (a.eval x) (a.eval y)).run O.P w= .ok r w:=by
  intro hu r he;cases hx:aE tm (aK H x)<;>cases hy:aE tm (aK H y)<;>rw [hx,hy] at he<;>simp only [jj,reduceCtorEq] at he
  rw [hx] at rx;rw [hy] at ry;simp only [ah] at rx ry;simp only [yd] at he;refine ⟨_,_,rx,ry,?_⟩;rw [rx,ry,Lg,<-he];exact atX hu
 have pS:∀e,O.P.underlying t=some (.slice e)->∀r,jj .sl (aE tm (aK H x)) (aE tm (aK H y))=some r->∃p n c q n' c',a.eval x= .slice p n c/\a.eval y= .slice q n' c'/\(Op.equal t (a.eval x) (a.eval y)).run O.P w= .ok r w:=by
  intro e hu r he;have h1:=arx hu rx ry he;have sl:∀{v:AV} {u:yf},ah O.af m S w v u->(v= .aa\/(∃a b c,v= .ai a b c)\/∃a b c,v= .aC a b c)->∃p n c,u= .slice p n c:=by
   intro v u hr hv;rcases hv with rfl | ⟨_,_,_,rfl⟩ | ⟨_,_,_,rfl⟩
   ·simp only [ah] at hr;exact ⟨_,_,_,hr⟩
   ·simp only [ah] at hr;rcases hr with ⟨b,o,c,hr,_⟩ | ⟨_,hr,_⟩<;>exact ⟨_,_,_,hr⟩
   ·simp only [ah] at hr;obtain ⟨b,c,_,hr,_⟩:=hr;exact ⟨_,_,_,hr⟩
  have dt:(aE tm (aK H x)= .aa\/(∃a b c,aE tm (aK H x)= .ai a b c)\/∃a b c,aE tm (aK H x)= .aC a b c)/\
    (aE tm (aK H y)= .aa\/(∃a b c,aE tm (aK H y)= .ai a b c)\/∃a b c,aE tm (aK H y)= .aC a b c):=by
   cases hx:aE tm (aK H x)<;>cases hy:aE tm (aK H y)<;>rw [hx,hy] at he<;>simp [jj] at he ⊢
  obtain ⟨p,n,c,e1⟩:=sl rx dt.1;obtain ⟨q,n',c',e2⟩:=sl ry dt.2;exact ⟨p,n,c,q,n',c',e1,e2,h1⟩
 have pF:∀ps rs vr,O.P.underlying t=some (.func ps rs vr)->∀r,jj .fn (aE tm (aK H x)) (aE tm (aK H y))=some r->
   ((a.eval x= .nilFunc\/∃f p q,a.eval x= .func f p q)/\(a.eval y= .nilFunc\/∃f p q,a.eval y= .func f p q))/\(Op.equal t (a.eval x) (a.eval y)).run O.P w= .ok r w:=by
  intro ps rs vr hu r he;have h1:=ary hu rx ry he;have sl:∀{v:AV} {u:yf},ah O.af m S w v u->(v= .iy\/(∃a b c,v= .fn a b c))->(u= .nilFunc\/∃f p q,u= .func f p q):=by
   intro v u hr hv;rcases hv with rfl | ⟨f,_,_,rfl⟩
   ·simp only [ah] at hr;exact .inl hr
   ·cases f with
    | f g=>simp only [ah] at hr;obtain ⟨b,c,hr,_⟩:=hr;exact .inr ⟨_,_,_,hr⟩
    | y l=>simp only [ah] at hr;obtain ⟨b,_,hr⟩:=hr;exact .inr ⟨_,_,_,hr⟩
  have dt:(aE tm (aK H x)= .iy\/(∃a b c,aE tm (aK H x)= .fn a b c))/\(aE tm (aK H y)= .iy\/(∃a b c,aE tm (aK H y)= .fn a b c)):=by
   cases hx:aE tm (aK H x)<;>cases hy:aE tm (aK H y)<;>rw [hx,hy] at he<;>simp [jj] at he ⊢
  exact ⟨⟨sl rx dt.1,sl ry dt.2⟩,h1⟩
 have pA:∀ks,kinds O.P 20 t=some ks->dE O.P t=some true->O.P.stoodInHeld t=false->∀r,jj (.ag ks) (aE tm (aK H x)) (aE tm (aK H y))=some r->∃p q,a.eval x= .agg p/\a.eval y= .agg q/\(Op.equal t (a.eval x) (a.eval y)).run O.P w= .ok r w:=by
  intro ks hk ha aP r he;cases hx:aE tm (aK H x)<;>cases hy:aE tm (aK H y)<;>rw [hx,hy] at he<;>simp only [jj,reduceCtorEq] at he
  rw [hx] at rx;rw [hy] at ry;simp only [ah] at rx ry;obtain ⟨p,e1,h1⟩:=rx;obtain ⟨q,e2,h2⟩:=ry;refine ⟨p,q,e1,e2,?_⟩;rw [e1,e2,Lg];exact Rh 20 t ks hk aP 10000 (by omega) _ _ _ _ r _ _ h1 h2 he (.inl ⟨ha,by simp⟩) (.inl ⟨ha,by simp⟩)
 have eqs:∀(ne:Bool),(op= .eql/\ne=false\/op= .neq/\ne=true)->bw tm hp (pI O.P H ne op t x y)=some v->Reads O m S w a o v:=by
  intro ne jl hv;have agg:dE O.P t=some true->bw tm hp (qC O.P H ne t x y)=some v->Reads O m S w a o v:=by
   intro ha hv;unfold qC at hv
   cases hk:kinds O.P 20 t with
   | none=>rw [hk] at hv;exact (dz hv).elim
   | some ks=>
    simp only [hk] at hv
    cases hc:(O.P.stoodInHeld t||O.P.eqGuardType O.P.depth t) with
    | true=>rw [hc] at hv;exact (dz hv).elim
    | false=>
     rw [hc] at hv;simp only [yS] at hv;simp only [Bool.or_eq_false_iff] at hc;refine other ne (.ag ks) jl (fun r hr=>?_) hv;obtain ⟨p,q,e1,e2,h1⟩:=pA ks hk ha hc.1 r hr;refine ⟨h1,.inr hc.2,by rw [e1];simp,fun _=>?_⟩
     rw [e1,e2];exact ⟨fun e=>by subst e;rfl,fun e=>by subst e;rfl⟩
  unfold pI at hv
  split at hv
  ·exact plain hv
  ·exact plain hv
  ·exact plain hv
  ·rename_i hu;refine other ne .b jl (fun r hr=>?_) hv;obtain ⟨p,q,e1,e2,h1⟩:=pB hu r hr;refine ⟨h1,.inl (by rw [e1];simp),by rw [e1];simp,fun _=>?_⟩
   rw [e1,e2];exact ⟨fun e=>by subst e;rfl,fun e=>by subst e;rfl⟩
  ·rename_i e hu;refine other ne .sl jl (fun r hr=>?_) hv;obtain ⟨p,n,c,q,n',c',e1,e2,h1⟩:=pS e hu r hr;refine ⟨h1,.inl (by rw [e1];simp),by rw [e1];simp,fun _=>?_⟩
   rw [e1,e2];exact ⟨fun e=>by subst e;rfl,fun e=>by subst e;rfl⟩
  ·rename_i ps rs vr hu;refine other ne .fn jl (fun r hr=>?_) hv;obtain ⟨⟨e1,e2⟩,h1⟩:=pF ps rs vr hu r hr;refine ⟨h1,.inl ?_,?_,fun _=>?_⟩
   ·rcases e1 with e1 | ⟨_,_,_,e1⟩<;>rw [e1]<;>simp
   ·rcases e1 with e1 | ⟨_,_,_,e1⟩<;>rw [e1]<;>simp
   ·rcases e1 with e1 | ⟨_,_,_,e1⟩<;>rcases e2 with e2 | ⟨_,_,_,e2⟩<;>rw [e1,e2]<;>exact ⟨fun e=>by subst e;rfl,fun e=>by subst e;rfl⟩
  ·rename_i fs hu;exact agg (by simp [dE,hu]) hv
  ·rename_i k0 e hu;exact agg (by simp [dE,hu]) hv
  ·exact (dz hv).elim
 cases op
 case eql=>exact eqs false (.inl ⟨rfl,rfl⟩) (by simpa only [a6,ho] using hv)
 case neq=>exact eqs true (.inr ⟨rfl,rfl⟩) (by simpa only [a6,ho] using hv)
 all_goals exact plain (by simpa only [a6,ho] using hv)
end
end
section
open Go
section
variable {O:bl} {H:Hint} {m:Mp} {S:Nat->Prop} {w:yh} {tm:Env} {a:Act} {hp:Hp} {ct:Nat}
def GN {o:y5} {b:Builtin} {args:Array xo} {ts:Array yD} (ho:o.op= .call {callee:= .builtin b,args:=args,argTypes:=ts}):
  ∃cs,(execOp a.eval o).run O.P w=(builtin b ts o.type cs (args.map a.eval)).run O.P w:=by
 exact ⟨_,by simp only [execOp,ho,resolve,Sem.run_bind,Sem.run_pure,Result.andThen_ok,invoke];rfl⟩
def anJ {o:y5} {c:Call} {k:Nat} {v:AV} (hH:fo O H) (ht:b7 O m S w tm a.tmps) (hh:aT O m S w hp ct) (ho:o.op= .call c)
  (hv:bw tm hp (a6 O.P H k o)=some v):Reads O m S w a o v:=by
 obtain ⟨callee,args,ts⟩:=c;simp only [a6,ho] at hv
 split at hv
 ·cases X2:H.mode k<;>simp [X2,bw] at hv
 ·rename_i _ b
  split at hv
  ·have key:∀{bb:Bool} {sz cB:Nat} {x y:X},bw tm hp (bif bb then .aR sz cB x y else bad)=some v->False:=by
    intro bb sz cB x y h
    cases bb
    ·exact dz h
    ·simp [bw] at h
   split at hv
   ·split at hv
    ·exact (key hv).elim
    ·simp_all
   ·split at hv
    ·exact (key hv).elim
    ·simp_all
   ·simp_all
  ·rename_i x t gh oS;obtain ⟨al⟩:=args;obtain ⟨tl⟩:=ts;simp only at gh oS;subst gh;subst oS;obtain ⟨cs,fQ⟩:=GN (O:=O) (w:=w) (a:=a) ho;have fin:(∃u,(Builtin.len_ #[t] o.type #[a.eval x]).run O.P w= .ok u w/\ah O.af m S w v u)->Reads O m S w a o v:=by
    rintro ⟨u,h1,h2⟩;refine ⟨u,?_,h2⟩;rw [fQ];simp [builtin,h1]
   split at hv
   ·rename_i n e hu;simp only [bw,aE,yd] at hv;subst hv;exact fin ⟨_,by simp [Builtin.len_,run_underlying hu];rfl,by simp [ah,goInt]⟩
   ·rename_i hu;simp only [bw] at hv;exact fin (Ri hh (cw hH ht x) (.inl ⟨rfl,hu⟩) hv)
   ·rename_i e hu;simp only [bw] at hv;exact fin (Ri hh (cw hH ht x) (.inr (.inl ⟨rfl,e,hu⟩)) hv)
   ·rename_i kt e hu;simp only [bw] at hv;exact fin (Ri hh (cw hH ht x) (.inr (.inr ⟨rfl,kt,e,hu⟩)) hv)
   ·exact (dz hv).elim
  ·split at hv
   ·split at hv
    ·simp [bw] at hv
    ·exact (dz hv).elim
   ·exact (dz hv).elim
  ·simp only [bw] at hv;obtain ⟨cs,fQ⟩:=GN (O:=O) (w:=w) (a:=a) ho;have hl:=BL hH ht args.toList
   cases hx:dj tm (gl H args.toList) with
   | nil=>simp [hx] at hv
   | cons c r=>
    simp only [hx] at hv;rw [hx] at hl;simp only [az] at hl;obtain ⟨u,us,h1,h2,h3⟩:=hl;obtain ⟨q,h4,h5⟩:=QK (O:=O) (g:=Builtin.min2) (fun va vb v x y hx hy h=>arA hx hy h) r us c v u h2 h3 hv;refine ⟨q,?_,h5⟩;rw [fQ];simp [builtin,Builtin.min_,h1,h4]
  ·simp only [bw] at hv;obtain ⟨cs,fQ⟩:=GN (O:=O) (w:=w) (a:=a) ho;have hl:=BL hH ht args.toList
   cases hx:dj tm (gl H args.toList) with
   | nil=>simp [hx] at hv
   | cons c r=>
    simp only [hx] at hv;rw [hx] at hl;simp only [az] at hl;obtain ⟨u,us,h1,h2,h3⟩:=hl;obtain ⟨q,h4,h5⟩:=QK (O:=O) (g:=Builtin.max2) (fun va vb v x y hx hy h=>arB hx hy h) r us c v u h2 h3 hv;refine ⟨q,?_,h5⟩;rw [fQ];simp [builtin,Builtin.max_,h1,h4]
  ·exact (dz hv).elim
 ·exact (dz hv).elim
def aag {kt:yD} {kk:Nat} {vk:AV} (hk:keyOf O.P kt=some kk) (h:sd kk vk=true):∃d,O.P.underlying kt=some d/\MH d=true/\fits d vk=true:=by
 unfold keyOf at hk
 split at hk
 ·rename_i hu;simp only [yd] at hk;subst hk;refine ⟨_,hu,rfl,?_⟩;cases vk<;>simp_all [sd,fits]
 ·rename_i hu;simp only [yd] at hk;subst hk;refine ⟨_,hu,rfl,?_⟩;cases vk<;>simp_all [sd,fits]
 ·rename_i hu;simp only [yd] at hk;subst hk;refine ⟨_,hu,rfl,?_⟩;cases vk<;>simp_all [sd,fits]
 ·cases hk
def acL {o:y5} {k:Nat} {v:AV} (hH:fo O H) (ht:b7 O m S w tm a.tmps) (hh:aT O m S w hp ct)
  (hv:bw tm hp (a6 O.P H k o)=some v):Reads O m S w a o v:=by
 cases ho:o.op with
 | call c=>exact anJ hH ht hh ho hv
 | binOp op t x y ty=>exact apx hH ht ho hv
 | move x=>
  simp only [a6,ho,bw,yd] at hv;subst hv;exact ⟨_,by simp only [execOp,ho,Sem.run_pure],cw hH ht x⟩
 | assign x=>
  simp only [a6,ho,bw,yd] at hv;subst hv;exact ⟨_,by simp only [execOp,ho,Sem.run_pure],cw hH ht x⟩
 | pick c x y=>
  simp only [a6,ho,bw] at hv;have rc:=cw hH ht c;cases hc:aE tm (aK H c)<;>rw [hc] at hv<;>simp only [reduceCtorEq] at hv
  rename_i b;rw [hc] at rc;simp only [ah] at rc;simp only [yd] at hv;subst hv
  cases b with
  | true=>exact ⟨a.eval x,by simp [execOp,ho,rc,asBool],cw hH ht x⟩
  | false=>exact ⟨a.eval y,by simp [execOp,ho,rc,asBool],cw hH ht y⟩
 | load t x=>
  simp only [a6,ho] at hv
  split at hv
  ·rename_i s ag hz ha;simp only [bw] at hv;exact js (by simp only [execOp,ho]) (ax4 hh hz ha (cw hH ht x) hv)
  ·exact (dz hv).elim
 | fieldAddr t x i=>
  simp only [a6,ho] at hv
  split at hv
  ·rename_i fs hu
   split at hv
   ·rename_i f hf
    split at hv
    ·rename_i s hz;simp only [bw] at hv;exact js (by simp only [execOp,ho]) (atY hu hf hz (cw hH ht x) hv)
    ·exact (dz hv).elim
   ·exact (dz hv).elim
  ·exact (dz hv).elim
 | field t x i=>
  simp only [a6,ho] at hv
  split at hv
  ·rename_i fs hu
   split at hv
   ·rename_i f hf
    split at hv
    ·rename_i s ag hz ha;simp only [bw] at hv;exact js (by simp only [execOp,ho]) (atZ hu hf hz ha (cw hH ht x) hv)
    ·exact (dz hv).elim
   ·exact (dz hv).elim
  ·exact (dz hv).elim
 | nilCheck x=>
  simp only [a6,ho,bw] at hv;have rx:=cw hH ht x;cases hx:aE tm (aK H x)<;>rw [hx] at hv rx<;>simp only [reduceCtorEq,yd] at hv
  ·subst hv;have r':=rx;simp only [ah] at r';obtain ⟨p,_,e⟩:=r';exact ⟨a.eval x,by simp only [execOp,ho,e,Sem.run_pure],rx⟩
  ·subst hv;have r':=rx;simp only [ah] at r';obtain ⟨b,o',e,_⟩:=r';exact ⟨a.eval x,by simp only [execOp,ho,e,Sem.run_pure],rx⟩
  ·subst hv;rename_i f _ _
   cases f with
   | f g=>
    have r':=rx;simp only [ah] at r';obtain ⟨fi,ca,e,_⟩:=r';exact ⟨a.eval x,by simp only [execOp,ho,e,Sem.run_pure],rx⟩
   | y l=>
    have r':=rx;simp only [ah] at r';obtain ⟨p,_,e⟩:=r';exact ⟨a.eval x,by simp only [execOp,ho,e,Sem.run_pure],rx⟩
 | unOp op t x=>
  simp only [a6,ho,bw] at hv;exact js (by simp only [execOp,ho]) (arz (cw hH ht x) hv)
 | convert s d x=>
  simp only [a6,ho] at hv
  split at hv
  ·rename_i k1 k2 hs hd;simp only [bw] at hv;exact js (by simp only [execOp,ho]) (abI hd (.inl ⟨_,hs⟩) (cw hH ht x) hv)
  ·rename_i k1 k2 hs hd;simp only [bw] at hv;exact js (by simp only [execOp,ho]) (abI hd (.inr ⟨_,hs⟩) (cw hH ht x) hv)
  ·rename_i k1 k2 hs hd;simp only [bw] at hv;exact js (by simp only [execOp,ho]) (abJ hd (.inl ⟨_,hs⟩) (cw hH ht x) hv)
  ·rename_i k1 k2 hs hd;simp only [bw] at hv;exact js (by simp only [execOp,ho]) (abJ hd (.inr ⟨_,hs⟩) (cw hH ht x) hv)
  ·rename_i hs hd;simp only [bw] at hv;exact js (by simp only [execOp,ho]) (apu hd hs (cw hH ht x) hv)
  ·exact (dz hv).elim
 | makeFunc fn first cap=>
  cases fn with
  | func f=>
   simp only [a6,ho] at hv
   split at hv
   ·rename_i g hg;simp only [bw,yd] at hv;subst hv;refine ⟨.func (.func f) (first.map a.eval) (cap.map a.eval),by simp [execOp,ho,Instr.makeFunc],?_⟩;simp only [ah];exact ⟨_,_,by rw [hH f g hg],by simpa using BL hH ht first.toList,by simpa using BL hH ht cap.toList⟩
   ·exact (dz hv).elim
  | _=>simp only [a6,ho] at hv;exact (dz hv).elim
 | slice t x lo hi mx=>
  cases mx with
  | some q=>simp only [a6,ho] at hv;exact (dz hv).elim
  | none=>
   simp only [a6,ho] at hv
   split at hv
   ·rename_i hu;simp only [bw] at hv;exact js (by simp only [execOp,ho];rfl) (anH hH ht hu (cw hH ht x) hv)
   ·rename_i e hu
    split at hv
    ·rename_i s hz;simp only [bw] at hv;exact js (by simp only [execOp,ho];rfl) (apv hH ht hu hz hh (cw hH ht x) hv)
    ·exact (dz hv).elim
   ·split at hv
    ·simp only [bw] at hv;cases hx:aE tm (aK H x)<;>rw [hx] at hv<;>simp [eV] at hv
    ·exact (dz hv).elim
   ·exact (dz hv).elim
 | indexAddr t x i=>
  simp only [a6,ho] at hv
  split at hv
  ·rename_i e hu
   split at hv
   ·rename_i s hz;simp only [bw] at hv
    cases hk:dl (aE tm (aK H i)) with
    | none=>simp [hk] at hv
    | some j=>
     simp only [hk] at hv;exact js (by simp only [execOp,ho]) (at0 hu hz (cw hH ht x) (cw hH ht i) hk hv)
   ·exact (dz hv).elim
  ·rename_i n e hu
   split at hv
   ·rename_i s hz;simp only [bw] at hv
    cases hk:dl (aE tm (aK H i)) with
    | none=>simp [hk] at hv
    | some j=>
     simp only [hk] at hv;exact js (by simp only [execOp,ho]) (at1 hu hz (cw hH ht x) (cw hH ht i) hk hv)
   ·exact (dz hv).elim
  ·exact (dz hv).elim
 | index t x i=>
  simp only [a6,ho] at hv
  split at hv
  ·rename_i hu;simp only [bw] at hv
   cases hk:dl (aE tm (aK H i)) with
   | none=>simp [hk] at hv
   | some j=>
    simp only [hk] at hv;exact js (by simp only [execOp,ho]) (at3 hu (cw hH ht x) (cw hH ht i) hk hv)
  ·rename_i n e hu
   split at hv
   ·rename_i s ag hz ha;simp only [bw] at hv
    cases hk:dl (aE tm (aK H i)) with
    | none=>simp [hk] at hv
    | some j=>
     simp only [hk] at hv;exact js (by simp only [execOp,ho]) (at2 hu hz ha (cw hH ht x) (cw hH ht i) hk hv)
   ·exact (dz hv).elim
  ·exact (dz hv).elim
 | lookup t x i ok=>
  simp only [a6,ho] at hv
  split at hv
  ·rename_i kt e hu
   split at hv
   ·rename_i kk z rE hz;simp only [bw] at hv
    cases hf:sd kk (aE tm (aK H i)) with
    | false=>simp [hf] at hv
    | true=>
     simp only [hf,yB] at hv;obtain ⟨d,iC,gH,X3⟩:=aag rE hf;obtain ⟨zv,mg,rfl⟩:=DE (w:=w) hz
     cases hr:Ak hp (aE tm (aK H i)) (aE tm (aK H x)) with
     | none=>simp [hr] at hv
     | some r=>
      refine js (by simp only [execOp,ho]) (at4 (ok:=ok) (r:=r) (z:=er zv) hh hu iC gH X3 mg (cw hH ht x) (cw hH ht i) (LB zv) hr ?_);cases r<;>simpa [hr] using hv
   ·exact (dz hv).elim
  ·exact (dz hv).elim
 | extract x i=>
  simp only [a6,ho,bw] at hv;have rx:=cw hH ht x;cases hx:aE tm (aK H x)<;>rw [hx] at hv rx<;>simp only [reduceCtorEq] at hv
  simp only [ah] at rx;obtain ⟨xs,e,hr⟩:=rx;obtain ⟨u,h1,h2⟩:=Qi hr hv;refine ⟨u,?_,h2⟩;have X4:xs[i]? =some u:=by simpa using h1
  simp [execOp,ho,e,Instr.extract,X4]
 | build t parts=>
  simp only [a6,ho] at hv
  split at hv
  ·rename_i fs z hu hz
   split at hv
   ·rename_i pl azA;have fe:=run_places (P:=O.P) w fs.toList pl azA
    split at hv
    case h_2=>exact (dz hv).elim
    rename_i ps gQ;simp only [bw] at hv
    cases hf:fill tm z ps with
    | none=>simp [hf] at hv
    | some cs=>
     simp only [hf,yd] at hv;subst hv;obtain ⟨zv,mg,jm⟩:=DE (w:=w) hz;have zo:az O.af m S w z zv.cells.toList:=by
      have:=Di (af:=O.af) (m:=m) (S:=S) (w:=w) zv
      rw [<-jm] at this;exact this
     obtain ⟨out,h1,h2⟩:=LD hH ht (place:=fun i=>pl[i]?) parts.toList ps z cs zv.cells gQ zo hf;refine ⟨.agg out,?_,by simp only [ah];exact ⟨out,rfl,h2⟩⟩
     have hm:(Array.mapM (fun f=>Functor.map (Prod.mk f.offset) (Go.sizeOf f.type)) fs:Sem (Array (Nat×Nat))).run O.P w= .ok pl.toArray w:=by
      rw [Array.mapM_eq_mapM_toList];simp [fe]
     simp [execOp,ho,Instr.build,mg,run_underlying hu,hm,h1]
   ·exact (dz hv).elim
  ·rename_i n e z hu hz
   split at hv
   ·rename_i s hs
    split at hv
    ·rename_i ps gQ;simp only [bw] at hv
     cases hf:fill tm z ps with
     | none=>simp [hf] at hv
     | some cs=>
      simp only [hf,yd] at hv;subst hv;obtain ⟨zv,mg,jm⟩:=DE (w:=w) hz;have zo:az O.af m S w z zv.cells.toList:=by
       have:=Di (af:=O.af) (m:=m) (S:=S) (w:=w) zv
       rw [<-jm] at this;exact this
      obtain ⟨out,h1,h2⟩:=LD hH ht (place:=fun i=>some (i*s,s)) parts.toList ps z cs zv.cells gQ zo hf;refine ⟨.agg out,?_,by simp only [ah];exact ⟨out,rfl,h2⟩⟩
      simp [execOp,ho,Instr.build,mg,run_underlying hu,mW hs,h1]
    ·exact (dz hv).elim
   ·exact (dz hv).elim
  ·exact (dz hv).elim
 | alloc t=>simp only [a6,ho] at hv;split at hv<;>simp [bw,bad] at hv
 | box t x=>simp only [a6,ho] at hv;split at hv<;>simp [bw,bad] at hv
 | buildSlice t n parts=>
  simp only [a6,ho] at hv
  split at hv
  ·split at hv
   ·rename_i s z _ _
    cases hc:yF (n*s) 16777216 with
    | false=>rw [hc] at hv;exact (dz hv).elim
    | true=>
     rw [hc] at hv;simp only [yB] at hv
     split at hv
     ·simp [bw] at hv
     ·exact (dz hv).elim
   ·exact (dz hv).elim
  ·exact (dz hv).elim
 | makeMap t r=>
  cases r<;>simp only [a6,ho] at hv
  ·repeat' split at hv
   all_goals simp [bw,bad] at hv
  ·exact (dz hv).elim
 | makeSlice t l c=>
  simp only [a6,ho] at hv
  repeat' split at hv
  all_goals simp [bw,bad] at hv
 | insert t x k y=>
  simp only [a6,ho] at hv
  repeat' split at hv
  all_goals simp [bw,bad] at hv
 | mapUpdate t x k y=>
  simp only [a6,ho] at hv
  repeat' split at hv
  all_goals simp [bw,bad] at hv
 | store t x y=>simp only [a6,ho] at hv;split at hv<;>simp [bw,bad] at hv
 | range t x=>simp only [a6,ho] at hv;split at hv<;>simp [bw,bad] at hv
 | next x b=>cases b<;>simp [a6,ho,bw,bad] at hv
 | _=>simp [a6,ho,bw,bad] at hv
end
end
section
open Go
def fj (m:Mp) (id:Nat) (p:Pl):Mp:=fun i=>if i=id then some p else m i
def dZ {m:Mp} {id:Nat} {p:Pl}:fj m id p id=some p:=by simp [fj]
def dY {m:Mp} {id i:Nat} {p:Pl} (h:i≠id):fj m id p i=m i:=by simp [fj,h]
section
variable {O:bl} {m:Mp} {S:Nat->Prop} {w:yh} {hp:Hp} {ct:Nat}
def du (m m':Mp):Prop:=∀id p,m id=some p->m' id=some p
def du.refl {m:Mp}:du m m:=fun _ _ h=>h
def du.trans {m m' JH:Mp} (h:du m m') (k:du m' JH):du m JH:=fun id p hp=>k id p (h id p hp)
def jM {i:Nat} (h:m i=none) {p:Pl}:du m (fj m i p):=by
 intro id q hq;rw [dY]
 ·grind
 ·grind
def zP {tm:Env} {tmps:Array yf} {m':Mp} {S':Nat->Prop} {w':yh} (hm:∀id p,m id=some p->m' id=some p) (hS:∀b,S b->S' b) (hw:fA S w w')
  (h:b7 O m S w tm tmps):b7 O m' S' w' tm tmps:=fun i=>lB hm hS hw _ _ (h i)
def alloc_old {o:Go.Obj} {b:Nat} (hb:b<w.heap.size):(w.alloc o).heap[b]? =w.heap[b]? :=RowKit.Below.heap_alloc w o b hb
def qd {m':Mp} {S':Nat->Prop} {w':yh} {id:Nat} {o:Obj} (hm:∀id p,m id=some p->m' id=some p) (hS:∀b,S b->S' b) (hw:fA S w w') (hb:∀p,m id=some p->w'.heap[p.b]? =w.heap[p.b]?)
  (hn:∀p,m id=some p->S' p.b->S p.b) (h:fh O m S w id o):fh O m' S' w' id o:=by
 have rowAt:∀(cs:List AV) (b k:Nat),w'.heap[b]? =w.heap[b]? ->bP O.af m S w cs b k->bP O.af m' S' w' cs b k:=by
  intro cs
  induction cs with
  | nil=>intro b k _ _;simp only [bP]
  | cons c cs ih=>
   intro b k rF hr;obtain ⟨⟨u,h1,h2⟩,h3⟩:=hr;exact ⟨⟨u,(KH rF).trans h1,lB hm hS hw _ _ h2⟩,ih b (k+1) rF h3⟩
 cases o with
 | cells rw pu ex sz cs=>
  obtain ⟨p,arr,t,h1,h2,h3,h4,h5,h6,h7,h8,h9,ig⟩:=h;exact ⟨p,arr,t,hm _ _ h1,(hb p h1).trans h2,h3,h4,h5,h6,rowAt cs p.b p.o (hb p h1) h7,h8,fun hr hs=>h9 hr (hn p h1 hs),fun hr=>hS _ (ig hr)⟩
 | mp rw ks vs=>
  obtain ⟨p,es,clock,h1,h2,h3,h4,h5,h6⟩:=h;exact ⟨p,es,clock,hm _ _ h1,(hb p h1).trans h2,gK hm hS hw _ _ h3,gK hm hS hw _ _ h4,fun hr hs=>h5 hr (hn p h1 hs),fun hr=>hS _ (h6 hr)⟩
 | si s pos=>
  obtain ⟨p,t,h1,h2,h3,h4⟩:=h;exact ⟨p,t,hm _ _ h1,(hb p h1).trans h2,h3,fun hs=>h4 (hn p h1 hs)⟩
 | lp tm ps cJ body st pe=>
  obtain ⟨p,l,hi,h1,h2,h3,h4,h5,h6,h7,h8⟩:=h;exact ⟨p,l,hi,hm _ _ h1,(hb p h1).trans h2,fun hs=>h3 (hn p h1 hs),h4,h5,h6,zP hm hS hw h7,h8⟩
def gL {id i:Nat} {o:Obj}:aB ((id,o)::hp) i=if id=i then some o else aB hp i:=by
 simp only [aB]
 simp_all
def GV (hh:aT O m S w hp ct) (g:Go.Obj):fA S w (w.alloc g):=fun b hb=>alloc_old (hh.slt b hb)
def iZ:Obj->Obj->Prop
 | .cells rw pu ex sz cs,o'=>∃rw',o'= .cells rw' pu ex sz cs/\(rw'=true->rw=true)
 | .mp rw ks vs,o'=>∃rw',o'= .mp rw' ks vs/\(rw'=true->rw=true)
 | .si s pos,o'=>o'= .si s pos
 | .lp tm ps cJ body st pe,o'=>o'= .lp tm ps cJ body st pe
def iZ.refl:∀o,iZ o o
 | .cells rw _ _ _ _=>⟨rw,rfl,fun h=>h⟩
 | .mp rw _ _=>⟨rw,rfl,fun h=>h⟩
 | .si _ _=>rfl
 | .lp _ _ _ _ _ _=>rfl
def iZ.trans {a b c:Obj} (h:iZ a b) (k:iZ b c):iZ a c:=by
 cases a with
 | cells rw pu ex sz cs=>
  obtain ⟨r1,rfl,h1⟩:=h;obtain ⟨r2,rfl,h2⟩:=k;exact ⟨r2,rfl,fun h=>h1 (h2 h)⟩
 | mp rw ks vs=>
  obtain ⟨r1,rfl,h1⟩:=h;obtain ⟨r2,rfl,h2⟩:=k;exact ⟨r2,rfl,fun h=>h1 (h2 h)⟩
 | si s pos=>simp only [iZ] at h;subst h;exact k
 | lp tm ps cJ body st pe=>simp only [iZ] at h;subst h;exact k
def cY (hp ap:Hp):Prop:=∀id o,aB hp id=some o->∃o',aB ap id=some o'/\iZ o o'
def cY.refl {hp:Hp}:cY hp hp:=fun _ o h=>⟨o,h,iZ.refl o⟩
def cY.trans {a b c:Hp} (h:cY a b) (k:cY b c):cY a c:=fun id o ho=>
 let ⟨o1,h1,l1⟩:=h id o ho
 let ⟨o2,h2,l2⟩:=k id o1 h1
 ⟨o2,h2,l1.trans l2⟩
def iN:Obj->Prop
 | .cells rw _ _ _ _=>rw=false
 | .mp rw _ _=>rw=false
 | _=>False
def acM {ap:Hp} {aY:Nat} (hh:aT O m S w hp ct) (hl:cY hp ap) (hd:∀id o p,aB ap id=some o->m id=some p->∃o',aB hp id=some o') (fU:ct<=aY) (azB:∀id o,aB ap id=some o->id<aY):
  ∃S',aT O m S' w ap aY/\(∀b,S b->S' b)/\∀b,S' b->S b\/dR m hp b:=by
 refine ⟨fun b=>S b\/∃id p o,m id=some p/\p.b=b/\aB ap id=some o/\iN o,?_,fun b h=> .inl h,?_⟩
 ·refine ⟨?_,fun id p h=>Nat.lt_of_lt_of_le (hh.lt id p h) fU,?_,?_,hh.blt,hh.low,hh.kP,hh.fB,azB⟩
  ·intro id o' p kX hm;obtain ⟨o,ho⟩:=hd id o' p kX hm;obtain ⟨o'',h1,h2⟩:=hl id o ho;rw [kX] at h1;injection h1 with h1
   subst h1;have h3:=hh.obj id o p ho hm;have hS:∀b,S b->(S b\/∃id p o,m id=some p/\p.b=b/\aB ap id=some o/\iN o):=fun b h=> .inl h
   have gS:∀q,m id=some q->(∃id p o,m id=some p/\p.b=q.b/\aB ap id=some o/\iN o)->iN o':=by
    rintro q hq ⟨j,pj,oj,X5,hj2,hj3,hj4⟩;obtain ⟨JJ,hj5⟩:=hd j oj pj hj3 X5
    have:=hh.inj id j o JJ q pj ho hj5 hq X5 hj2.symm
    grind
   have aP:fA S w w:=fun _ _=>rfl
   cases o with
   | cells rw pu ex sz cs=>
    obtain ⟨rw',rfl,pV⟩:=h2;obtain ⟨q,arr,t,h1,h2,h3,h4,h5,h6,h7,h8,h9,ig⟩:=h3;refine ⟨q,arr,t,h1,h2,h3,h4,h5,h6,?_,h8,?_,?_⟩
    ·clear h4 h6 h8;revert h7;generalize q.o=k
     induction cs generalizing k with
     | nil=>intro _;simp only [bP]
     | cons c cs ih=>
      intro hr;simp only [bP] at hr ⊢;obtain ⟨⟨u,g1,g2⟩,g3⟩:=hr
      exact ⟨⟨u,g1,lB (fun _ _ h=>h) hS aP _ _ g2⟩,by
       have CJ:∀(cs:List AV) (b k:Nat),bP O.af m S w cs b k->bP O.af m (fun b=>S b\/∃id p o,m id=some p/\p.b=b/\aB ap id=some o/\iN o) w cs b k:=by
        intro cs
        induction cs with
        | nil=>intro b k _;simp only [bP]
        | cons c cs ih=>
         intro b k hr;simp only [bP] at hr ⊢;obtain ⟨⟨u,g1,g2⟩,g3⟩:=hr;exact ⟨⟨u,g1,lB (fun _ _ h=>h) hS aP _ _ g2⟩,ih b (k+1) g3⟩
       exact CJ _ _ _ g3⟩
    ·rintro hr (hs | hs)
     ·grind
     ·have:=gS q h1 hs
      simp only [iN] at this
      grind
    ·intro hr;exact .inr ⟨id,q,_,h1,rfl,kX,hr⟩
   | mp rw ks vs=>
    obtain ⟨rw',rfl,pV⟩:=h2;obtain ⟨q,es,clock,h1,h2,h3,h4,h5,h6⟩:=h3;refine ⟨q,es,clock,h1,h2,gK (fun _ _ h=>h) hS aP _ _ h3,gK (fun _ _ h=>h) hS aP _ _ h4,?_,?_⟩
    ·rintro hr (hs | hs)
     ·grind
     ·have:=gS q h1 hs
      simp only [iN] at this
      grind
    ·intro hr;exact .inr ⟨id,q,_,h1,rfl,kX,hr⟩
   | si s pos=>
    simp only [iZ] at h2;subst h2;refine qd (fun _ _ h=>h) hS aP (fun _ _=>rfl) (fun q hq hs=>?_) h3;rcases hs with hs | hs
    ·grind
    ·exact (gS q hq hs).elim
   | lp tm ps cJ body st pe=>
    simp only [iZ] at h2;subst h2;refine qd (fun _ _ h=>h) hS aP (fun _ _=>rfl) (fun q hq hs=>?_) h3;rcases hs with hs | hs
    ·grind
    ·exact (gS q hq hs).elim
  ·intro i j oi oj pi pj hi hj bJ fK e;obtain ⟨JK,cS⟩:=hd i oi pi hi bJ;obtain ⟨JJ,X6⟩:=hd j oj pj hj fK;exact hh.inj i j JK JJ pi pj cS X6 bJ fK e
  ·rintro b (hb | ⟨id,p,o,h1,rfl,_,_⟩)
   ·exact hh.slt b hb
   ·exact hh.blt id p h1
 ·rintro b (hb | ⟨id,p,o,h1,rfl,h3,_⟩)
  ·exact .inl hb
  ·obtain ⟨o',kX⟩:=hd id o p h3 h1;exact .inr ⟨id,o',p,kX,h1,rfl⟩
def abL {i:Nat} (hh:aT O m S w hp ct) (hi:m i=none) (Fj:i<ct) {g:Go.Obj} {p:Pl} (hb:p.b=w.heap.size)
  (hf:∀o,aB hp i=some o->(fh O (fj m i p) S (w.alloc g) i o/\¬iN o)\/
   (iN o/\fh O (fj m i p) (fun b=>S b\/b=w.heap.size) (w.alloc g) i o)):
  ∃S',aT O (fj m i p) S' (w.alloc g) hp ct/\(∀b,S b->S' b)/\∀b,S' b->S b\/b=w.heap.size:=by
 have eh:(w.alloc g).heap.size=w.heap.size+1:=by simp
 have bf:O.w0.heap.size<=w.heap.size:=hh.fB;have gen:∀S':Nat->Prop,(∀b,S b->S' b)->(∀b,S' b->S b\/b=w.heap.size)->(∀o,aB hp i=some o->fh O (fj m i p) S' (w.alloc g) i o)->aT O (fj m i p) S' (w.alloc g) hp ct:=by
  intro S' h1 h2 h3;have JL:∀id q,m id=some q->¬q.b=w.heap.size:=fun id q hq=>by have:=hh.blt id q hq;omega
  refine ⟨?_,?_,?_,?_,?_,?_,?_,?_,hh.aW⟩
  ·intro id o q ho hm;by_cases hc:id=i
   ·grind
   ·rw [dY hc] at hm;refine qd (jM hi) h1 (GV hh g) (fun q' bK=>alloc_old (hh.blt id q' bK)) (fun q' bK hs=>?_) (hh.obj id o q ho hm)
    grind
  ·intro id q hm;by_cases hc:id=i
   ·grind
   ·rw [dY hc] at hm;exact hh.lt id q hm
  ·intro a b oa ob pa pb ha cC CK sO e;by_cases ca:a=i
   ·by_cases cb:b=i
    ·grind
    ·subst ca;rw [dZ] at CK;rw [dY cb] at sO
     grind
   ·rw [dY ca] at CK;by_cases cb:b=i
    ·subst cb;rw [dZ] at sO
     grind
    ·rw [dY cb] at sO;exact hh.inj a b oa ob pa pb ha cC CK sO e
  ·intro b hs;rcases h2 b hs with h | h
   ·have:=hh.slt b h;omega
   ·omega
  ·intro id q hm;by_cases hc:id=i
   ·subst hc;rw [dZ] at hm
    grind
   ·rw [dY hc] at hm
    have:=hh.blt id q hm
    omega
  ·intro id q hm;by_cases hc:id=i
   ·subst hc;rw [dZ] at hm
    grind
   ·rw [dY hc] at hm;exact hh.low id q hm
  ·intro b rF;exact (alloc_old (by omega)).trans (hh.kP b rF)
  ·omega
 cases ho:aB hp i with
 | none=>exact ⟨S,gen S (fun _ h=>h) (fun _ h=> .inl h) (fun o h=>by rw [ho] at h;cases h),fun _ h=>h,fun _ h=> .inl h⟩
 | some o=>
  rcases hf o ho with ⟨h1,_⟩ | ⟨_,h1⟩
  ·exact ⟨S,gen S (fun _ h=>h) (fun _ h=> .inl h) (fun o' h=>by rw [ho] at h;injection h with h;subst h;exact h1),fun _ h=>h,fun _ h=> .inl h⟩
  ·exact ⟨_,gen (fun b=>S b\/b=w.heap.size) (fun _ h=> .inl h) (fun _ h=>h) (fun o' h=>by rw [ho] at h;injection h with h;subst h;exact h1),fun _ h=> .inl h,fun _ h=>h⟩
def ZW {id:Nat} {o o':Obj} {p:Pl} (hl:iZ o o') (hm:m id=some p) (h:fh O m S w id o) (hn:¬iN o):
  (fh O m S w id o'/\¬iN o')\/(iN o'/\fh O m (fun b=>S b\/b=p.b) w id o'):=by
 have hS:∀b,S b->(S b\/b=p.b):=fun _ h=> .inl h
 have aP:fA S w w:=fun _ _=>rfl
 cases o with
 | cells rw pu ex sz cs=>
  obtain ⟨rw',rfl,pV⟩:=hl
  cases rw' with
  | true=>
   grind
  | false=>
   refine .inr ⟨rfl,?_⟩;obtain ⟨q,arr,t,h1,h2,h3,h4,h5,h6,h7,h8,h9,ig⟩:=h;rw [hm] at h1;injection h1 with h1
   subst h1;have CJ:∀(cs:List AV) (b k:Nat),bP O.af m S w cs b k->bP O.af m (fun b=>S b\/b=p.b) w cs b k:=by
    intro cs
    induction cs with
    | nil=>intro b k _;simp only [bP]
    | cons c cs ih=>
     intro b k hr;obtain ⟨⟨u,g1,g2⟩,g3⟩:=hr;exact ⟨⟨u,g1,lB (fun _ _ h=>h) hS aP _ _ g2⟩,ih b (k+1) g3⟩
   exact ⟨p,arr,t,hm,h2,h3,h4,h5,h6,CJ _ _ _ h7,h8,by simp,fun _=> .inr rfl⟩
 | mp rw ks vs=>
  obtain ⟨rw',rfl,pV⟩:=hl
  cases rw' with
  | true=>
   grind
  | false=>
   refine .inr ⟨rfl,?_⟩;obtain ⟨q,es,clock,h1,h2,h3,h4,h5,h6⟩:=h;rw [hm] at h1;injection h1 with h1
   subst h1;exact ⟨p,es,clock,hm,h2,gK (fun _ _ h=>h) hS aP _ _ h3,gK (fun _ _ h=>h) hS aP _ _ h4,by simp,fun _=> .inr rfl⟩
 | si s pos=>simp only [iZ] at hl;subst hl;exact .inl ⟨h,hn⟩
 | lp tm ps cJ body st pe=>simp only [iZ] at hl;subst hl;exact .inl ⟨h,hn⟩
end
end
section
open Go
section
variable {O:bl} {H:Hint} {m:Mp} {S:Nat->Prop} {w:yh} {tm:Env} {a:Act} {hp:Hp} {ct cq:Nat}
def PZ {af:Nat->Nat} {b:Nat} {arr:Array yf} {t:yD} {fr:Nat×Nat} (hb:w.heap[b]? =some (.cells arr t fr)):∀(cs:List AV) (us:List yf) (o:Nat),
  az af m S w cs us->(∀(j:Nat) (u:yf),us[j]? =some u->arr[o+j]? =some u)->bP af m S w cs b o
 | [],us,o,_,_=>by simp only [bP]
 | c::cs,us,o,h,hu=>by
  simp only [az] at h;obtain ⟨u,r,rfl,h2,h3⟩:=h;simp only [bP];refine ⟨⟨u,?_,h2⟩,PZ hb cs r (o+1) h3 (fun j v hv=>?_)⟩
  ·have:=hu 0 u (by simp)
   simpa [World.cell?,hb] using this
  ·have:=hu (j+1) v (by simpa using hv)
   rw [show o+1+j=o+(j+1) by omega];exact this
def arC (hh:aT O m S w hp cq) {i:Nat} {arr:Array yf} {t:yD} {cs:List AV} {us:List yf} {pu ex:Bool} {sz:Nat} (hr:az O.af m S w cs us)
  (hu:∀(j:Nat) (u:yf),us[j]? =some u->arr[j]? =some u) (hl:cs.length<=arr.size) (hex:ex=true->cs.length=arr.size) (ie:pu=true->aG cs=true)
  (m':Mp) (hm:du m m') (hi:m' i=some ⟨w.heap.size,0,arr.size,sz⟩):fh O m' S (w.alloc (.cells arr t)) i (.cells true pu ex sz cs):=by
 refine ⟨⟨w.heap.size,0,arr.size,sz⟩,arr,t,hi,heap_alloc_new w _,rfl,hl,by simp,hex,?_,ie,?_,by simp⟩
 ·exact PZ (heap_alloc_new w _) cs us 0 (gK hm (fun _ h=>h) (GV hh _) _ _ hr) (by simpa using hu)
 ·intro _ hS
  have:=hh.slt _ hS
  simp at this
def Ca (O:bl) (m:Mp) (S:Nat->Prop) (w:yh) (a:Act) (ct:Nat) (o:y5) (v:AV) (b:Obj):Prop:=
 ∃u g p,(execOp a.eval o).run O.P w= .ok (.value u) (w.alloc g)/\p.b=w.heap.size/\¬iN b/\
  ∀m',du m m'->m' ct=some p->fh O m' S (w.alloc g) ct b/\ah O.af m' S (w.alloc g) v u
def P0 {o:y5} {arr:Array yf} {t:yD} {cs:List AV} {us:List yf} {pu ex:Bool} {sz:Nat} {v:AV} {u:yf} (hh:aT O m S w hp cq)
  (he:(execOp a.eval o).run O.P w= .ok (.value u) (w.alloc (.cells arr t))) (hr:az O.af m S w cs us)
  (hu:∀(j:Nat) (u:yf),us[j]? =some u->arr[j]? =some u) (hl:cs.length<=arr.size) (hex:ex=true->cs.length=arr.size) (ie:pu=true->aG cs=true)
  (hv:∀m':Mp,m' ct=some ⟨w.heap.size,0,arr.size,sz⟩->ah O.af m' S (w.alloc (.cells arr t)) v u):Ca O m S w a ct o v (.cells true pu ex sz cs):=
 ⟨u,_,⟨w.heap.size,0,arr.size,sz⟩,he,rfl,by simp [iN],fun m' hm hi=>⟨arC hh hr hu hl hex ie m' hm hi,hv m' hi⟩⟩
def abM {o:y5} {t:yD} {x:yf} {vx v:AV} {b:Obj} {sz:Nat} (hh:aT O m S w hp cq) (he:(execOp a.eval o).run O.P w= .ok (.value (.pointer (some ⟨w.heap.size,0,none⟩))) (w.alloc (.cells x.cells t))) (hx:az O.af m S w (cellsOf vx) x.cells.toList)
  (hv:(bif yx (cellsOf vx).length sz&&cm (cellsOf vx) then some (AV.ptr ct 0,Obj.cells true (aG (cellsOf vx)) true sz (cellsOf vx)) else none)=some (v,b)):Ca O m S w a ct o v b:=by
 cases hc:(yx (cellsOf vx).length sz&&cm (cellsOf vx)) with
 | false=>rw [hc] at hv;cases hv
 | true=>
  rw [hc] at hv;obtain ⟨rfl,rfl⟩:=hv;have hlen:=il _ _ hx;refine P0 hh he hx (fun j u hj=>by simpa using hj) (by rw [<-hlen];simp) (fun _=>by rw [<-hlen];simp) (fun h=>h) (fun m' hi=>?_)
  simp only [ah];exact ⟨_,hi,by simp⟩
def apy {o:y5} {t:yD} {r:Option xo} (hh:aT O m S w hp cq) (ho:o.op= .makeMap t r) (hr:r=none):Ca O m S w a ct o (.map ct) (.mp true [] []):=by
 subst hr;refine ⟨.map (some w.heap.size),.map #[] 0,⟨w.heap.size,0,0,0⟩,by simp [execOp,ho,Instr.makeMap],rfl,by simp [iN],fun m' _ hi=>⟨?_,?_⟩⟩
 ·refine ⟨_,#[],0,hi,heap_alloc_new w _,by simp [az],by simp [az],?_,by simp⟩;intro _ hS
  have:=hh.slt _ hS
  simp at this
 ·simp only [ah];exact ⟨_,hi,rfl⟩
def anK {o:y5} {t:yD} {x:xo} {s:List Nat} (hh:aT O m S w hp cq) (ho:o.op= .range t x) (hu:O.P.underlying t=some .string) (hx:ah O.af m S w (.str s) (a.eval x)):
  Ca O m S w a ct o (.it ct) (.si s 0):=by
 obtain ⟨b,e,rfl⟩:=hx;refine ⟨.pointer (some ⟨w.heap.size,0,none⟩),.stringIter b 0,⟨w.heap.size,0,0,0⟩,by simp [execOp,ho,Instr.range,run_underlying hu,e],rfl,by simp [iN],fun m' _ hi=>⟨?_,?_⟩⟩
 ·refine ⟨_,b,hi,heap_alloc_new w _,rfl,?_⟩;intro hS
  have:=hh.slt _ hS
  simp at this
 ·simp only [ah];exact ⟨_,hi,rfl⟩
end
def anL (zero:Array yf):(xC zero.size).map (fun j=>zero[j]!)=zero.toList:=by
 apply List.ext_getElem
 ·simp
 ·grind
def aah (zero:Array yf):∀n:Nat,(xC (n*zero.size)).map (fun i=>zero[i%zero.size]!)=(yq n zero.toList).flatten
 | 0=>by simp
 | n+1=>by
  rw [wI,ybJ,List.range_add,List.map_append,aah zero n,List.replicate_succ',tV]
  congr 1
  simp only [List.map_map,wX,List.flatten_nil,List.append_nil];rw [<-anL zero];apply List.map_congr_left;intro j hj;simp at hj;simp [Function.comp,xB n,Nat.mod_eq_of_lt hj]
def Qk {af:Nat->Nat} {m:Mp} {S:Nat->Prop} {w:yh} {cs:List AV} {us:List yf} (h:az af m S w cs us):∀n,az af m S w (yq n cs).flatten (yq n us).flatten
 | 0=>by simp [az]
 | n+1=>by rw [wH,wH,wX,wX];exact lA h (Qk h n)
section
variable {O:bl} {H:Hint} {m:Mp} {S:Nat->Prop} {w:yh} {tm:Env} {a:Act} {hp:Hp} {ct cq:Nat}
def aaY (zero:Array yf) (n:Nat):(Array.map (fun i=>zero[i%zero.size]!) (uy (n*zero.size))).toList=(yq n zero.toList).flatten:=by
 rw [<-aah zero n]
 simp
def abN (tm:Env):∀(ps:List (Nat×Nat×X)) (zero cs:List AV),fill tm zero ps=some cs->cs.length=zero.length
 | [],zero,cs,h=>by simp only [fill,yd] at h;rw [h]
 | (o,sz,x)::r,zero,cs,h=>by
  simp only [fill] at h
  cases hc:(yx (cellsOf (aE tm x)).length sz&&yF (o+sz) zero.length&&cm (cellsOf (aE tm x))) with
  | false=>rw [hc] at h;cases h
  | true=>
   rw [hc] at h;simp only [ye] at hc;have h1:=ym hc.1.1;have h2:=yA hc.1.2;rw [abN tm r _ _ h];simp only [over,List.length_append,yI,xT];omega
def Lh {α:Type} (l:List α):∀n,(yq n l).flatten.length=n*l.length
 | 0=>by simp
 | n+1=>by simp [wH,Lh l n,wI,Nat.add_comm]
def anM {o:y5} {t e:yD} {n s:Nat} {z:AV} {parts:Array (Nat×xo)} {ps:List (Nat×Nat×X)} {v:AV} {b:Obj} (hH:fo O H) (ht:b7 O m S w tm a.tmps) (hh:aT O m S w hp cq)
  (ho:o.op= .buildSlice t n parts) (hu:O.P.underlying t=some (.slice e)) (hs:cK O.P e=some s) (hz:mB O.P e=some z) (hn:n*s<=16777216)
  (gQ:partsOf H (fun i=>some (i*s,s)) parts.toList=some ps)
  (hv:cO tm hp ct (.dT n s (yq n (cellsOf z)).flatten ps)=some (v,b)):Ca O m S w a ct o v b:=by
 simp only [cO] at hv
 cases hf:fill tm (yq n (cellsOf z)).flatten ps with
 | none=>simp [hf] at hv
 | some cs=>
  simp only [hf] at hv
  cases hc:yx cs.length (n*s) with
  | false=>rw [hc] at hv;cases hv
  | true=>
   rw [hc] at hv;simp only [yB,yd,yj] at hv;obtain ⟨rfl,rfl⟩:=hv;have hlen:=ym hc;obtain ⟨zv,mg,rfl⟩:=DE (w:=w) hz;have zo:az O.af m S w (cellsOf (er zv)) zv.cells.toList:=Di zv;have zp:=il _ _ zo;have oT:=abN tm ps _ _ hf;rw [Lh] at oT;have Fk:n*s=n*zv.cells.size:=by
    rw [<-hlen,oT,<-zp];simp
   have key:∃zr:Array yf,(n*s=0->zr=#[])/\(n*s≠0->zr=zv.cells)/\az O.af m S w (yq n (cellsOf (er zv))).flatten ((uy (n*s)).map (fun x=>zr[x%zr.size]!)).toList:=by
    by_cases h0:n*s=0
    ·refine ⟨#[],fun _=>rfl,fun h=>(h h0).elim,?_⟩
     have:(yq n (cellsOf (er zv))).flatten=[]:=by
      apply List.eq_nil_of_length_eq_zero;rw [Lh,<-zp];simp only [Array.length_toList];omega
     rw [this];simp [az,h0]
    ·refine ⟨zv.cells,fun h=>(h0 h).elim,fun _=>rfl,?_⟩;rw [Fk,aaY];exact Qk zo n
   obtain ⟨zr,AY,jB,fw⟩:=key;obtain ⟨out,h1,h2⟩:=LD hH ht (place:=fun i=>some (i*s,s)) parts.toList ps _ cs _ gQ fw hf;have nE:=il _ _ h2
   refine P0 (arr:=out) (t:=e) (us:=out.toList) hh ?_ h2 (fun j u hj=>by simpa using hj) (by rw [<-nE];simp) (fun _=>by rw [<-nE];simp) (fun h=>h) (u:= .slice (some ⟨w.heap.size,0,none⟩) n n) ?_
   ·have jC:¬(n*s>2^24):=by omega
    by_cases h0:n*s=0
    ·have:=AY h0
     subst this;simp only [h0] at h1;simp [execOp,ho,Instr.buildSlice,run_underlying hu,mW hs,h0,newRow] at h1 ⊢;simp [h1]
    ·have:=jB h0
     subst this;simp [execOp,ho,Instr.buildSlice,run_underlying hu,mW hs,h0,jC,mg,newRow] at h1 ⊢;simp [h1]
   ·intro m' hi;simp only [ah];refine ⟨_,n,hi,by simp,Nat.le_refl _,?_⟩;simp only [Nat.zero_add];rw [<-hlen,<-nE];simp
def Dj:∀{a b:List AV},aG a=true->aG b=true->aG (a++b)=true
 | [],_,_,h=>h
 | c::r,b,h,k=>by
  simp only [aG,ye] at h;simp only [xh,aG,ye];exact ⟨h.1,Dj h.2 k⟩
def aaZ {z:List AV} (h:aG z=true):∀n,aG (yq n z).flatten=true
 | 0=>by simp [aG]
 | n+1=>by rw [wH,wX];exact Dj h (aaZ h n)
def apz {o:y5} {t e:yD} {s cB:Nat} {z:AV} {l c:xo} {v:AV} {b:Obj} (hH:fo O H) (ht:b7 O m S w tm a.tmps) (hh:aT O m S w hp cq)
  (ho:o.op= .makeSlice t l c) (hu:O.P.underlying t=some (.slice e)) (hs:cK O.P e=some s) (hb:AT O.P e=some cB) (hz:mB O.P e=some z)
  (hv:cO tm hp ct (.fI s cB (cellsOf z) (aK H l) (aK H c))=some (v,b)):Ca O m S w a ct o v b:=by
 simp only [cO] at hv
 cases hl:dl (aE tm (aK H l)) with
 | none=>simp [hl] at hv
 | some ln=>
  cases hc:dl (aE tm (aK H c)) with
  | none=>simp [hl,hc] at hv
  | some cn=>
   simp only [hl,hc] at hv
   cases hk:(yF ln cn&&(yF cn room&&(yF (cn*cB) room&&(yx (cellsOf z).length s&&cm (cellsOf z))))) with
   | false=>rw [hk] at hv;cases hv
   | true=>
    rw [hk] at hv;simp only [yB,yd,yj] at hv;obtain ⟨rfl,rfl⟩:=hv;simp only [ye] at hk;have h1:=yA hk.1;have h2:=yA hk.2.1;have h3:=yA hk.2.2.1;have h4:=ym hk.2.2.2.1;simp only [room] at h2 h3;obtain ⟨kl,el⟩:=se (cw hH ht l) hl;obtain ⟨kc,ec⟩:=se (cw hH ht c) hc;obtain ⟨zv,mg,rfl⟩:=DE (w:=w) hz;have zo:az O.af m S w (cellsOf (er zv)) zv.cells.toList:=Di zv;have zp:=il _ _ zo;have JM:zv.cells.size=s:=by rw [<-h4,<-zp];simp
    have wrapN:∀k:Nat,k<=1099511627776->IntKind.i64.wrap (k:Int)=k:=fun k hk=>IntWalk.i64_in _ (by omega)
    obtain ⟨ti,zq,eh,X7⟩:∃ti,O.P.info? e=some ti/\ti.size=s/\ti.bytes=cB:=by
     unfold cK at hs;unfold AT at hb
     cases hi:O.P.info? e with
     | none=>simp [hi] at hs
     | some ti=>simp only [hi,yd] at hs hb;exact ⟨ti,rfl,hs,hb⟩
    have Cg:((uy (cn*s)).map (zv.cells[·%zv.cells.size]!)).toList=(yq ln zv.cells.toList).flatten++(yq (cn-ln) zv.cells.toList).flatten:=by
     rw [<-JM,aaY,<-tV,List.replicate_append_replicate]
     grind
    have iY:(yq ln (cellsOf (er zv))).flatten.length=ln*s:=by rw [Lh,h4]
    have hmul:ln*s<=cn*s:=Nat.mul_le_mul_right _ h1
    refine P0 (arr:=(uy (cn*s)).map (zv.cells[·%zv.cells.size]!)) (t:=e) (us:=(yq ln zv.cells.toList).flatten) hh (u:= .slice (some ⟨w.heap.size,0,none⟩) ln cn) ?_
     (Qk zo ln) ?_ ?_ ?_ (fun h=>?_) ?_
    ·have aG9:cB*cn<=1099511627776:=by rw [xB];exact h3
     have rG:((cB*cn:Nat):Int)<=1099511627776:=by omega
     rw [Int.natCast_mul] at rG;have hlc:(ln:Int)<=(cn:Int):=by omega
     have g1:¬(281474976710656<(cB:Int)*(cn:Int)):=by omega
     have g2:¬(((ln:Int)<0)):=by omega
     have g3:¬(((cn:Int)<0)):=by omega
     have g4:¬((ln:Int)>(cn:Int)):=by omega
     by_cases h0:cn*s=0
     ·simp [execOp,ho,Instr.makeSlice,run_underlying hu,el,ec,asInt,asIntOf,typeInfo,zq,X7,wrapN ln (by omega),wrapN cn h2,g1,g2,g3,g4,mW hs,h0,newRow,askRoom,roomBytes]
      grind
     ·simp [execOp,ho,Instr.makeSlice,run_underlying hu,el,ec,asInt,asIntOf,typeInfo,zq,X7,wrapN ln (by omega),wrapN cn h2,g1,g2,g3,g4,mW hs,h0,newRow,askRoom,roomBytes,mg]
    ·intro j u hj
     have:((uy (cn*s)).map (zv.cells[·%zv.cells.size]!)).toList[j]? =some u:=by
      grind
     grind
    ·grind
    ·simp_all
    ·exact aaZ h ln
    ·intro m' hi;simp only [ah];refine ⟨_,cn,hi,by simp,h1,?_⟩
     simp
def arD {o:y5} {k:Nat} {v:AV} {b:Obj} (hH:fo O H) (ht:b7 O m S w tm a.tmps) (hh:aT O m S w hp cq)
  (hv:cO tm hp ct (a6 O.P H k o)=some (v,b)):Ca O m S w a ct o v b:=by
 cases ho:o.op with
 | call c=>
  obtain ⟨callee,args,ts⟩:=c;simp only [a6,ho] at hv
  repeat' split at hv
  all_goals first
   | (simp [cO,bad] at hv;done)
   | (revert hv;generalize yx _ _=bb;intro hv;cases bb<;>simp [cO,bad] at hv)
 | alloc t=>
  simp only [a6,ho] at hv
  split at hv
  ·rename_i s z hs hz;obtain ⟨zv,mg,rfl⟩:=DE (w:=w) hz
   exact abM (x:=zv) (t:=t) hh (by simp [execOp,ho,Instr.alloc,mg,newVar,newRow]) (Di zv) (by simpa only [cO,aE] using hv)
  ·simp [cO,bad] at hv
 | box t x=>
  simp only [a6,ho] at hv
  split at hv
  ·rename_i s hs;simp only [cO] at hv
   cases hc:(yx (cellsOf (aE tm (aK H x))).length s&&cm (cellsOf (aE tm (aK H x)))) with
   | false=>rw [hc] at hv;cases hv
   | true=>
    have h1:=hc;simp only [ye] at h1
    exact abM (x:=a.eval x) (t:=t) hh (by simp [execOp,ho,Instr.box,newVar,newRow]) (PY (cw hH ht x) h1.2) hv
  ·simp [cO,bad] at hv
 | buildSlice t n parts=>
  simp only [a6,ho] at hv
  split at hv
  ·rename_i e hu
   split at hv
   ·rename_i s z hs hz
    cases hc:yF (n*s) 16777216 with
    | false=>rw [hc] at hv;simp [cO,bad] at hv
    | true=>
     rw [hc] at hv;simp only [yB] at hv
     split at hv
     ·rename_i ps gQ;exact anM hH ht hh ho hu hs hz (yA hc) gQ hv
     ·simp [cO,bad] at hv
   ·simp [cO,bad] at hv
  ·simp [cO,bad] at hv
 | makeSlice t l c=>
  simp only [a6,ho] at hv
  split at hv
  ·rename_i e hu
   split at hv
   ·rename_i s cB z hs hb hz
    exact apz hH ht hh ho hu hs hb hz hv
   ·simp [cO,bad] at hv
  ·simp [cO,bad] at hv
 | makeMap t r=>
  cases r with
  | some x=>simp [a6,ho,cO,bad] at hv
  | none=>
   simp only [a6,ho] at hv
   repeat' split at hv
   all_goals first
    | (simp [cO,bad] at hv;done)
    | (
      simp only [cO,yd,yj] at hv;obtain ⟨rfl,rfl⟩:=hv
      exact apy hh ho rfl)
 | range t x=>
  simp only [a6,ho] at hv
  split at hv
  ·rename_i hu;simp only [cO] at hv;have rx:=cw hH ht x;cases hx:aE tm (aK H x)<;>rw [hx] at hv rx<;>simp only [reduceCtorEq] at hv
   simp only [yd,yj] at hv;obtain ⟨rfl,rfl⟩:=hv;exact anK hh ho hu rx
  ·simp [cO,bad] at hv
 | next x b=>cases b<;>simp [a6,ho,cO,bad] at hv
 | binOp op t x y ty=>
  cases op<;>simp only [a6,ho,pI,qC] at hv
  case eql=>
        repeat' split at hv
        all_goals first
         | (simp [cO,bad] at hv;done)
         | (cases hb:(O.P.stoodInHeld t||O.P.eqGuardType O.P.depth t)<;>rw [hb] at hv<;>simp [cO,bad] at hv)
  case neq=>
        repeat' split at hv
        all_goals first
         | (simp [cO,bad] at hv;done)
         | (cases hb:(O.P.stoodInHeld t||O.P.eqGuardType O.P.depth t)<;>rw [hb] at hv<;>simp [cO,bad] at hv)
  all_goals simp [cO] at hv
 | _=>
  simp only [a6,ho] at hv
  (repeat' split at hv)
  all_goals first
   | contradiction
   | (simp [cO,bad] at hv;done)
end
end
section
open Go
def qg {hp:Hp} {id i:Nat} {o:Obj}:aB (bc hp id o) i=if id=i then (if (aB hp id).isSome then some o else none) else aB hp i:=by
 induction hp with
 | nil=>simp [bc,aB]
 | cons x r ih=>
  obtain ⟨j,q⟩:=x;simp only [bc];by_cases hj:j=id
  ·subst hj;simp only [vd,yB,aB];by_cases hi:j=i
   ·simp_all
   ·have:yx j i=false:=by
     cases hq:yx j i with
     | false=>rfl
     | true=>exact absurd (ym hq) hi
    grind
  ·have hb:yx j id=false:=by
    cases hq:yx j id with
    | false=>rfl
    | true=>exact absurd (ym hq) hj
   simp only [hb,yS];rw [show aB ((j,q)::bc r id o) i=bif yx j i then some q else aB (bc r id o) i from rfl,ih];by_cases hi:j=i
   ·subst hi
    have:¬id=j:=fun h=>hj h.symm
    simp [vd,this,aB]
   ·have rG:yx j i=false:=by
     cases hq:yx j i with
     | false=>rfl
     | true=>exact absurd (ym hq) hi
    simp [rG,aB,hb]
def jt (hp ap:Hp):Prop:=∀id,(aB ap id).isSome=(aB hp id).isSome
def jt.refl {hp:Hp}:jt hp hp:=fun _=>rfl
def jt.trans {a b c:Hp} (h:jt a b) (k:jt b c):jt a c:=fun id=>(k id).trans (h id)
def QM {hp:Hp} {id:Nat} {o o':Obj} (h:aB hp id=some o) (hl:iZ o o'):cY hp (bc hp id o')/\jt hp (bc hp id o'):=by
 constructor
 ·intro i q hq;rw [qg];by_cases hi:id=i
  ·grind
  ·exact ⟨q,by simp [hi,hq],iZ.refl q⟩
 ·intro i;rw [qg]
  grind
def aa0 {hp H:Hp} {id:Nat} {pu ex:Bool} {sz:Nat} {cs:List AV} (hl:cY hp H) (h:aB hp id=some (.cells false pu ex sz cs)):aB H id=some (.cells false pu ex sz cs):=by
 obtain ⟨o',h1,rw',rfl,h2⟩:=hl id _ h
 cases rw' with
 | false=>exact h1
 | true=>exact absurd (h2 rfl) (by simp)
section
variable {O:bl}
def ax6 (O:bl) (m:Mp) (S:Nat->Prop) (w:yh) (p:Pl) (ex:Bool) (sz:Nat) (cs:List AV):Prop:=
 p.z=sz/\cs.length<=p.e/\(ex=true->cs.length=p.e)/\S p.b/\aG cs=true/\bP O.af m S w cs p.b p.o
def Sg (O:bl) (ap:Hp) (v v':AV):Prop:=∀H m S w ct,cY ap H->aT O m S w H ct->(∀u,ah O.af m S w v u->ah O.af m S w v' u)/\aZ v'=true
def ahZ (O:bl) (ap:Hp) (vs dQ:List AV):Prop:=∀H m S w ct,cY ap H->aT O m S w H ct->(∀us,az O.af m S w vs us->az O.af m S w dQ us)/\aG dQ=true
def azC (O:bl) (ap:Hp) (id:Nat) (ex:Bool) (sz:Nat) (cs:List AV):Prop:=∀H m S w ct,cY ap H->aT O m S w H ct->∀p,m id=some p->ax6 O m S w p ex sz cs
def Dx {af:Nat->Nat} {m:Mp} {S:Nat->Prop} {w:yh} {b:Nat}:∀(cs:List AV) (us:List yf) (o:Nat),az af m S w cs us->
  (∀(j:Nat) (u:yf),us[j]? =some u->w.cell? ⟨b,o+j,none⟩=some u)->bP af m S w cs b o
 | [],us,o,_,_=>by simp only [bP]
 | c::cs,us,o,h,hu=>by
  obtain ⟨u,r,rfl,h2,h3⟩:=h;refine ⟨⟨u,by simpa using hu 0 u (by simp),h2⟩,Dx cs r (o+1) h3 (fun j v hv=>?_)⟩;rw [show o+1+j=o+(j+1) by omega]
  simp_all
def ax7 {m:Mp} {S:Nat->Prop} {w:yh} {cs dP:List AV} (h:∀us,az O.af m S w cs us->az O.af m S w dP us) {b o:Nat} (hr:bP O.af m S w cs b o):bP O.af m S w dP b o:=by
 obtain ⟨us,h1,_,h3⟩:=rY cs b o hr;exact Dx dP us o (h us h1) h3
def Bt:∀(k:Nat) {cs:List AV},aG cs=true->aG (cs.take k)=true
 | 0,_,_=>by simp [aG]
 | k+1,[],_=>by simp [aG]
 | k+1,c::cs,h=>by
  simp only [aG,ye,wq] at h ⊢;exact ⟨h.1,Bt k h.2⟩
def apA {ap:Hp} {vs dQ:List AV}:∀{n:Nat} {hp:Hp},cM n hp vs=some (dQ,ap)->dQ.length=vs.length:=by
 intro n
 induction n generalizing vs dQ ap with
 | zero=>intro hp h;simp [cM] at h
 | succ n ih=>
  intro hp h
  cases vs with
  | nil=>simp only [cM,yd,yj] at h;rw [<-h.1]
  | cons v r=>
   simp only [cM] at h
   cases h1:freeze n hp v with
   | none=>simp [h1] at h
   | some q=>
    obtain ⟨v',bi⟩:=q;simp only [h1] at h
    cases h2:cM n bi r with
    | none=>simp [h2] at h
    | some q2=>
     grind
def aai:∀n:Nat,
  (∀hp v v' ap,freeze n hp v=some (v',ap)->cY hp ap/\jt hp ap/\Sg O ap v v')/\
  (∀hp id ex sz cs ap,qc n hp id=some (ex,sz,cs,ap)->cY hp ap/\jt hp ap/\azC O ap id ex sz cs)/\
  (∀hp vs dQ ap,cM n hp vs=some (dQ,ap)->cY hp ap/\jt hp ap/\ahZ O ap vs dQ):=by
 intro n
 induction n with
 | zero=>refine ⟨?_,?_,?_⟩<;>intros<;>simp_all [freeze,qc,cM]
 | succ n ih=>
  obtain ⟨ihV,ihB,Fl⟩:=ih;refine ⟨?_,?_,?_⟩
  ·intro hp v v' ap h;have plain:∀{v v':AV} {hp ap:Hp},(bif aZ v then some (v,hp) else none)=some (v',ap)->cY hp ap/\jt hp ap/\Sg O ap v v':=by
    intro v v' hp ap h
    cases hc:aZ v with
    | false=>rw [hc] at h;cases h
    | true=>
     rw [hc] at h;simp only [yB,yd,yj] at h;obtain ⟨rfl,rfl⟩:=h;exact ⟨cY.refl,jt.refl,fun _ _ _ _ _ _ _=>⟨fun _ h=>h,hc⟩⟩
   cases v<;>simp only [freeze] at h<;>first | exact plain h | skip
   case aC id o k=>
    cases hb:qc n hp id with
    | none=>simp [hb] at h
    | some q=>
     obtain ⟨ex,sz,cs,bi⟩:=q;simp only [hb] at h
     cases hc:yF (o+k*sz) cs.length with
     | false=>rw [hc] at h;cases h
     | true=>
      rw [hc] at h;simp only [yB,yd,yj] at h;obtain ⟨rfl,rfl⟩:=h;have hle:=yA hc;obtain ⟨h1,h2,h3⟩:=ihB _ _ _ _ _ _ hb;refine ⟨h1,h2,fun H m S w ct hl hh=>⟨fun u hu=>?_,by simp only [aZ]⟩⟩;simp only [ah] at hu ⊢;obtain ⟨p,c,hm,rfl,ku,On⟩:=hu;obtain ⟨g1,g2,g3,g4,g5,g6⟩:=h3 H m S w ct hl hh p hm;refine .inl ⟨p.b,p.o+o,c,rfl,ku,?_,.inr g4,Bt _ (zM _ _ g5),Bv _ _ _ _ (p9 _ _ _ _ g6)⟩;intro hx;simp only [ye] at hx;have e1:=ym hx.2;have e2:0<sz:=by
       simp_all
      have e3:=g3 hx.1.1;rw [g1] at On
      have:c*sz=k*sz:=by omega
      exact Nat.eq_of_mul_eq_mul_right e2 this
   case ptr id o=>
    cases hb:qc n hp id with
    | none=>simp [hb] at h
    | some q=>
     obtain ⟨ex,sz,cs,bi⟩:=q;simp only [hb,yd,yj] at h;obtain ⟨rfl,rfl⟩:=h;obtain ⟨h1,h2,h3⟩:=ihB _ _ _ _ _ _ hb;refine ⟨h1,h2,fun H m S w ct hl hh=>⟨fun u hu=>?_,by simp only [aZ]⟩⟩;simp only [ah] at hu ⊢;obtain ⟨p,hm,rfl⟩:=hu;obtain ⟨g1,g2,g3,g4,g5,g6⟩:=h3 H m S w ct hl hh p hm;exact ⟨p.b,p.o+o,rfl,.inr g4,zM _ _ g5,p9 _ _ _ _ g6⟩
   case map id=>
    cases hg:aB hp id with
    | none=>simp [hg] at h
    | some ob=>
     cases ob<;>simp only [hg,reduceCtorEq] at h
     rename_i rw ks vs
     cases hc:(aG ks&&aG vs) with
     | false=>rw [hc] at h;cases h
     | true=>
      rw [hc] at h;simp only [yB,yd,yj] at h;obtain ⟨rfl,rfl⟩:=h;simp only [ye] at hc;obtain ⟨h1,h2⟩:=QM hg (o':= .mp false ks vs) ⟨false,rfl,by simp⟩;refine ⟨h1,h2,fun H m S w ct hl hh=>⟨fun u hu=>?_,by simp only [aZ]⟩⟩;simp only [ah] at hu ⊢;obtain ⟨p,hm,rfl⟩:=hu;have hq:aB (bc hp id (.mp false ks vs)) id=some (.mp false ks vs):=by rw [qg];simp [hg]
      obtain ⟨o',h3,rw',rfl,h4⟩:=hl id _ hq;have pV:rw'=false:=by cases rw' with | false=>rfl | true=>exact absurd (h4 rfl) (by simp)
      subst pV;obtain ⟨p',es,clock,g1,g2,g3,g4,g5,g6⟩:=hh.obj id _ _ h3 hm;rw [hm] at g1;injection g1 with g1
      subst g1;exact ⟨p.b,es,clock,rfl,g6 rfl,hc.1,hc.2,g2,g3,g4⟩
   case fn f first cap=>
    cases f with
    | y l=>simp only [aZ,yS,reduceCtorEq] at h
    | f g=>
     simp only at h
     cases h1:cM n hp first with
     | none=>simp [h1] at h
     | some q=>
      obtain ⟨afV,bi⟩:=q;simp only [h1] at h
      cases h2:cM n bi cap with
      | none=>simp [h2] at h
      | some q2=>
       obtain ⟨MF,kj⟩:=q2;simp only [h2,yd,yj] at h;obtain ⟨rfl,rfl⟩:=h;obtain ⟨a1,a2,a3⟩:=Fl _ _ _ _ h1;obtain ⟨b1,b2,b3⟩:=Fl _ _ _ _ h2;refine ⟨a1.trans b1,a2.trans b2,fun H m S w ct hl hh=>?_⟩;obtain ⟨c1,c2⟩:=a3 H m S w ct (b1.trans hl) hh;obtain ⟨d1,d2⟩:=b3 H m S w ct hl hh;refine ⟨fun u hu=>?_,by simp [aZ,c2,d2]⟩;simp only [ah] at hu ⊢;obtain ⟨fi,ca,rfl,e1,e2⟩:=hu;exact ⟨fi,ca,rfl,c1 _ e1,d1 _ e2⟩
   case agg cs=>
    cases h1:cM n hp cs with
    | none=>simp [h1] at h
    | some q=>
     obtain ⟨dP,bi⟩:=q;simp only [h1,yd,yj] at h;obtain ⟨rfl,rfl⟩:=h;obtain ⟨a1,a2,a3⟩:=Fl _ _ _ _ h1;refine ⟨a1,a2,fun H m S w ct hl hh=>?_⟩;obtain ⟨c1,c2⟩:=a3 H m S w ct hl hh;refine ⟨fun u hu=>?_,by simpa [aZ] using c2⟩;simp only [ah] at hu ⊢;obtain ⟨xs,rfl,e1⟩:=hu;exact ⟨xs,rfl,c1 _ e1⟩
   case ae cs=>
    cases h1:cM n hp cs with
    | none=>simp [h1] at h
    | some q=>
     obtain ⟨dP,bi⟩:=q;simp only [h1,yd,yj] at h;obtain ⟨rfl,rfl⟩:=h;obtain ⟨a1,a2,a3⟩:=Fl _ _ _ _ h1;refine ⟨a1,a2,fun H m S w ct hl hh=>?_⟩;obtain ⟨c1,c2⟩:=a3 H m S w ct hl hh;refine ⟨fun u hu=>?_,by simpa [aZ] using c2⟩;simp only [ah] at hu ⊢;obtain ⟨xs,rfl,e1⟩:=hu;exact ⟨xs,rfl,c1 _ e1⟩
  ·intro hp id ex sz dP ap h;simp only [qc] at h
   cases hg:aB hp id with
   | none=>simp [hg] at h
   | some ob=>
    cases ob<;>simp only [hg,reduceCtorEq] at h
    rename_i rw pu rz AZ cs
    cases pu with
    | true=>
     simp only [yB,yd,yj] at h;obtain ⟨rfl,rfl,rfl,rfl⟩:=h;have hq:cY hp (bif rw then bc hp id (.cells false true rz AZ cs) else hp)/\jt hp (bif rw then bc hp id (.cells false true rz AZ cs) else hp)/\aB (bif rw then bc hp id (.cells false true rz AZ cs) else hp) id=some (.cells false true rz AZ cs):=by
      cases rw with
      | true=>
       obtain ⟨h1,h2⟩:=QM hg (o':= .cells false true rz AZ cs) ⟨false,rfl,by simp⟩;exact ⟨h1,h2,by simp [qg,hg]⟩
      | false=>exact ⟨cY.refl,jt.refl,hg⟩
     refine ⟨hq.1,hq.2.1,fun H m S w ct hl hh p hm=>?_⟩;obtain ⟨p',arr,t,g1,g2,g3,g4,g5,g6,g7,g8,g9,g10⟩:=hh.obj id _ _ (aa0 hl hq.2.2) hm;rw [hm] at g1;injection g1 with g1
     subst g1;exact ⟨g3,g4,g6,g10 rfl,g8 rfl,g7⟩
    | false=>
     simp only [yS] at h
     cases h1:cM n hp cs with
     | none=>simp [h1] at h
     | some q=>
      obtain ⟨rH,bi⟩:=q;simp only [h1,yd,yj] at h;obtain ⟨rfl,rfl,rfl,rfl⟩:=h;obtain ⟨a1,a2,a3⟩:=Fl _ _ _ _ h1;obtain ⟨o1,gT,rw1,rfl,_⟩:=a1 id _ hg;obtain ⟨b1,b2⟩:=QM gT (o':= .cells false false rz AZ cs) ⟨false,rfl,by simp⟩;refine ⟨a1.trans b1,a2.trans b2,fun H m S w ct hl hh p hm=>?_⟩;have hq:aB (bc bi id (.cells false false rz AZ cs)) id=some (.cells false false rz AZ cs):=by simp [qg,gT]
      obtain ⟨p',arr,t,g1,g2,g3,g4,g5,g6,g7,g8,g9,g10⟩:=hh.obj id _ _ (aa0 hl hq) hm;rw [hm] at g1;injection g1 with g1
      subst g1;obtain ⟨c1,c2⟩:=a3 H m S w ct (b1.trans hl) hh;have hlen:=apA h1
      exact ⟨g3,by omega,fun hx=>by have:=g6 hx;omega,g10 rfl,c2,ax7 c1 g7⟩
  ·intro hp vs dQ ap h
   cases vs with
   | nil=>
    simp only [cM,yd,yj] at h;obtain ⟨rfl,rfl⟩:=h;exact ⟨cY.refl,jt.refl,fun _ _ _ _ _ _ _=>⟨fun _ h=>h,rfl⟩⟩
   | cons v r=>
    simp only [cM] at h
    cases h1:freeze n hp v with
    | none=>simp [h1] at h
    | some q=>
     obtain ⟨v1,bi⟩:=q;simp only [h1] at h
     cases h2:cM n bi r with
     | none=>simp [h2] at h
     | some q2=>
      obtain ⟨r1,kj⟩:=q2;simp only [h2,yd,yj] at h;obtain ⟨rfl,rfl⟩:=h;obtain ⟨a1,a2,a3⟩:=ihV _ _ _ _ h1;obtain ⟨b1,b2,b3⟩:=Fl _ _ _ _ h2;refine ⟨a1.trans b1,a2.trans b2,fun H m S w ct hl hh=>?_⟩;obtain ⟨c1,c2⟩:=a3 H m S w ct (b1.trans hl) hh;obtain ⟨d1,d2⟩:=b3 H m S w ct hl hh;refine ⟨fun us hu=>?_,by simp [aG,c2,d2]⟩;simp only [az] at hu ⊢;obtain ⟨u,t,rfl,e1,e2⟩:=hu;exact ⟨u,t,rfl,c1 _ e1,d1 _ e2⟩
def PJ {n:Nat} {hp ap:Hp} {vs dQ:List AV} (h:cM n hp vs=some (dQ,ap)):cY hp ap/\jt hp ap/\ahZ O ap vs dQ:=(aai n).2.2 _ _ _ _ h
def P1 {n:Nat} {hp ap:Hp} {v v':AV} (h:freeze n hp v=some (v',ap)):cY hp ap/\jt hp ap/\Sg O ap v v':=(aai n).1 _ _ _ _ h
end
end
end VE
