import Derived.Maps.Keyed
import Derived.ChangeKeysEq
import Derived.Laws.Tables
import Derived.IntWalk
import Derived.Test.YtfohkkaphnfgoabGreatDoorTaa
set_option linter.all false
set_option maxRecDepth 100000
open Array renaming range→ub
open Bool renaming and_assoc→uQ,and_eq_true→yf,not_eq_true'→vV
open Go renaming MapEntry→ui,Oper→y5,Operand→xu,Program→y9,TypeDesc→vh,TypeId→yx,Value→ye,World→yg,binOp→xJ
open List renaming cons_append→xn,drop_drop→wQ,flatten_append→tE,flatten_cons→wU,length_cons→yu,length_drop→xY,length_take→yQ,map_cons→yS,range→wO,replicate→yH,replicate_succ→wP,take_succ_cons→wb
open Nat renaming add_mul→we,beq→yt,beq_refl→vm,ble→yB,eq_of_beq_eq_true→yk,le_of_ble_eq_true→yr,mul_comm→xz,one_mul→ybp
open Option.some renaming injEq→yc
open Prod.mk renaming injEq→ym
namespace VE
section
open Go
section
variable {ah:Nat->Nat} {m:Mp} {S:Nat->Prop} {w:yg}
def Pr:∀{v:AV} {u:ye},ai ah m S w v u->bL (cellsOf v)=true->ap ah m S w (cellsOf v) u.cells.toList:=by
 intro v u h h1;cases v
 case agg cs=>
  simp only [ai] at h;obtain ⟨xs,rfl,hr⟩:=h;exact hr
 case aq vs=>simp [cellsOf,bL,br] at h1
 case undef=>simp [cellsOf,bL,br] at h1
 case cp=>simp [cellsOf,bL,br] at h1
 case fn f a b=>
  cases f with
  | f g=>have h':=h;simp only [ai] at h';obtain ⟨fi,ca,rfl,_⟩:=h';simp only [cellsOf,Value.cells,ap];exact ⟨_,_,rfl,h,rfl⟩
  | y l=>have h':=h;simp only [ai] at h';obtain ⟨p,_,rfl⟩:=h';simp only [cellsOf,Value.cells,ap];exact ⟨_,_,rfl,h,rfl⟩
 case str s=>have h':=h;simp only [ai] at h';obtain ⟨b,rfl,_⟩:=h';simp only [cellsOf,Value.cells,ap];exact ⟨_,_,rfl,h,rfl⟩
 case ptr id o=>have h':=h;simp only [ai] at h';obtain ⟨b,_,rfl⟩:=h';simp only [cellsOf,Value.cells,ap];exact ⟨_,_,rfl,h,rfl⟩
 case aO cs=>have h':=h;simp only [ai] at h';obtain ⟨b,o,rfl,_⟩:=h';simp only [cellsOf,Value.cells,ap];exact ⟨_,_,rfl,h,rfl⟩
 case aH e n cs=>have h':=h;simp only [ai] at h';rcases h' with ⟨b,o,c,rfl,_⟩ | ⟨a,rfl,_,_⟩<;>(simp only [cellsOf,Value.cells,ap];exact ⟨_,_,rfl,h,rfl⟩)
 case aE id o n=>have h':=h;simp only [ai] at h';obtain ⟨p,c,_,rfl,_⟩:=h';simp only [cellsOf,Value.cells,ap];exact ⟨_,_,rfl,h,rfl⟩
 case map id=>have h':=h;simp only [ai] at h';obtain ⟨p,_,rfl⟩:=h';simp only [cellsOf,Value.cells,ap];exact ⟨_,_,rfl,h,rfl⟩
 case jj ks vs=>have h':=h;simp only [ai] at h';obtain ⟨b,es,cl,rfl,_⟩:=h';simp only [cellsOf,Value.cells,ap];exact ⟨_,_,rfl,h,rfl⟩
 case it id=>have h':=h;simp only [ai] at h';obtain ⟨p,_,rfl⟩:=h';simp only [cellsOf,Value.cells,ap];exact ⟨_,_,rfl,h,rfl⟩
 all_goals
  have h':=h;simp only [ai] at h';subst h';simp only [cellsOf,Value.cells,ap];exact ⟨_,_,rfl,h,rfl⟩
def Dk (v:ye):ap ah m S w (cellsOf (ek v)) v.cells.toList:=by
 have h:=Lo (ah:=ah) (m:=m) (S:=S) (w:=w) v;cases v
 case agg xs=>
  obtain ⟨l⟩:=xs;simp only [ek,ai] at h ⊢;obtain ⟨xs,e,hr⟩:=h;injection e with e
  subst e;exact hr
 case tuple xs=>obtain ⟨l⟩:=xs;simp only [ek] at h ⊢;simp only [cellsOf,Value.cells,ap];exact ⟨_,_,rfl,h,rfl⟩
 case pointer p=>cases p<;>(simp only [ek] at h ⊢;simp only [cellsOf,Value.cells,ap];exact ⟨_,_,rfl,h,rfl⟩)
 case map p=>cases p<;>(simp only [ek] at h ⊢;simp only [cellsOf,Value.cells,ap];exact ⟨_,_,rfl,h,rfl⟩)
 case slice p n c=>
  cases p
  ·cases n
   ·cases c<;>(simp only [ek] at h ⊢;simp only [cellsOf,Value.cells,ap];exact ⟨_,_,rfl,h,rfl⟩)
   ·simp only [ek] at h ⊢;simp only [cellsOf,Value.cells,ap];exact ⟨_,_,rfl,h,rfl⟩
  ·simp only [ek] at h ⊢;simp only [cellsOf,Value.cells,ap];exact ⟨_,_,rfl,h,rfl⟩
 all_goals (simp only [ek] at h ⊢;simp only [cellsOf,Value.cells,ap];exact ⟨_,_,rfl,h,rfl⟩)
def kW:∀{a b:List AV} {x y:List ye},ap ah m S w a x->ap ah m S w b y->ap ah m S w (a++b) (x++y)
 | [],b,x,y,h,k=>by simp only [ap] at h;subst h;simpa using k
 | c::a,b,x,y,h,k=>by
  simp only [ap] at h;obtain ⟨u,r,rfl,h2,h3⟩:=h;simp only [xn,ap];exact ⟨u,r++y,rfl,h2,kW h3 k⟩
def GL:∀(k:Nat) {cs:List AV} {us:List ye},ap ah m S w cs us->ap ah m S w (cs.drop k) (us.drop k)
 | 0,cs,us,h=>by simpa using h
 | k+1,[],us,h=>by simp only [ap] at h;subst h;simp [ap]
 | k+1,c::cs,us,h=>by simp only [ap] at h;obtain ⟨u,r,rfl,_,h3⟩:=h;simpa using GL k h3
def Dv:∀(k:Nat) {cs:List AV} {us:List ye},ap ah m S w cs us->ap ah m S w (cs.take k) (us.take k)
 | 0,cs,us,h=>by simp [ap]
 | k+1,[],us,h=>by simp only [ap] at h;subst h;simp [ap]
 | k+1,c::cs,us,h=>by
  simp only [ap] at h;obtain ⟨u,r,rfl,h2,h3⟩:=h;simp only [wb,ap];exact ⟨u,_,rfl,h2,Dv k h3⟩
def PO:∀{cs:List AV} {us:List ye} {i:Nat} {v:AV},ap ah m S w cs us->cs[i]? =some v->∃u,us[i]? =some u/\ai ah m S w v u
 | [],us,i,v,_,h=>by simp at h
 | c::cs,us,0,v,h,e=>by
  simp only [ap] at h;obtain ⟨u,r,rfl,h2,h3⟩:=h;simp at e;subst e;exact ⟨u,rfl,h2⟩
 | c::cs,us,i+1,v,h,e=>by
  simp only [ap] at h;obtain ⟨u,r,rfl,h2,h3⟩:=h;simp at e;simpa using PO h3 e
end
def Xm (off:Nat):∀(new:List ye) (j:Nat) (cells:Array ye),off+j+new.length<=cells.size->
  ((new.zipIdx j).foldl (fun (cs:Array ye) (p:ye×Nat)=>cs.setIfInBounds (off+p.2) p.1) cells).toList=
   cells.toList.take (off+j)++new++cells.toList.drop (off+j+new.length)
 | [],j,cells,_=>by simp
 | v::r,j,cells,h=>by
  simp only [yu] at h;have ih:=Xm off r (j+1) (cells.setIfInBounds (off+j) v) (by simp;omega);simp only [List.zipIdx_cons,List.foldl_cons];rw [ih];have a6:off+j<cells.toList.length:=by simp;omega
  have h1:(cells.setIfInBounds (off+j) v).toList=cells.toList.set (off+j) v:=by simp
  rw [h1,show off+(j+1)=off+j+1 by omega];have h2:(cells.toList.set (off+j) v).take (off+j+1)=cells.toList.take (off+j)++[v]:=by
   rw [List.take_succ_eq_append_getElem (by simpa using a6)];simp [List.take_set_of_le]
  have h3:(cells.toList.set (off+j) v).drop (off+j+1+r.length)=cells.toList.drop (off+j+(r.length+1)):=by
   rw [List.drop_set_of_lt (by omega)];congr 1;omega
  rw [h2,h3]
  simp
section
variable {O:bq} {H:Hint} {m:Mp} {S:Nat->Prop} {w:yg} {tm:Env} {a:Act}
def Ls (hH:fp O H) (ht:cf O m S w tm a.tmps) {place:Nat->Option (Nat×Nat)}:∀(parts:List (Nat×xu)) (ps:List (Nat×Nat×X)) (zero cs:List AV) (cells:Array ye),
  partsOf H place parts=some ps->ap O.ah m S w zero cells.toList->fill tm zero ps=some cs->
  ∃out,Instr.fill place cells (parts.map fun p=>(p.1,a.eval p.2))=some out/\ap O.ah m S w cs out.toList
 | [],ps,zero,cs,cells,hp,hz,hf=>by
  simp only [partsOf,yc] at hp;subst hp;simp only [fill,yc] at hf;subst hf;exact ⟨cells,rfl,hz⟩
 | (i,x)::r,ps,zero,cs,cells,hp,hz,hf=>by
  simp only [partsOf] at hp
  cases iX:place i with
  | none=>simp [iX] at hp
  | some q=>
   obtain ⟨o,s⟩:=q;simp only [iX] at hp
   cases mX:partsOf H place r with
   | none=>simp [mX] at hp
   | some l=>
    simp only [mX,yc] at hp;subst hp;simp only [fill] at hf
    cases hc:(yt (cellsOf (az tm (aS H x))).length s&&yB (o+s) zero.length&&bL (cellsOf (az tm (aS H x)))) with
    | false=>rw [hc] at hf;cases hf
    | true=>
     rw [hc] at hf;simp only [yy] at hf;simp only [yf] at hc;have hs:=yk hc.1.1;have hle:=yr hc.1.2;have hrx:=Pr (cD hH ht x) hc.2;have mq:=iw _ _ hrx;have mY:=iw _ _ hz;have eF:(a.eval x).cells.size=s:=by rw [<-hs,<-mq];simp
     have iY:cells.size=zero.length:=by rw [<-mY];simp
     have aqN:=Xm o (a.eval x).cells.toList 0 cells (by simp;omega);have dZ:ap O.ah m S w (over o (cellsOf (az tm (aS H x))) zero)
       ((a.eval x).cells.zipIdx.foldl (fun (cs:Array ye) (p:ye×Nat)=>cs.setIfInBounds (o+p.2) p.1) cells).toList:=by
      rw [<-Array.foldl_toList,Array.toList_zipIdx,aqN];simp only [over,Nat.add_zero];rw [show (a.eval x).cells.toList.length=(cellsOf (az tm (aS H x))).length from mq];exact kW (kW (Dv o hz) hrx) (GL _ hz)
     obtain ⟨out,h1,h2⟩:=Ls hH ht r l _ cs _ mX dZ hf;refine ⟨out,?_,h2⟩;simp only [yS,Instr.fill,iX,eF];rw [yF (by simp;omega)];exact h1
end
end
section
open Go
def Xn (p q:ByteArray):(p==q)=cE (lk p) (lk q):=by
 have h:(p==q)=(p.data==q.data):=by cases p;cases q;rfl
 rw [h,Xj,ByteArray.toList_eq,ByteArray.toList_eq];rw [Bool.eq_iff_iff,tK,tK];constructor
 ·intro e;rw [e]
 ·intro e;have:=congrArg List.toArray e;simpa using this
def Mv:vh->Bool
 | .bool | .int _ | .string=>true
 | _=>false
def fits (d:vh) (v:AV):Bool:=
 match d,v with
 | .int _,.int _ _ | .string,.str _ | .bool,.bool _=>true
 | _,_=>false
def Found (ah:Nat->Nat) (m:Mp) (S:Nat->Prop) (w:yg) (f:Option (Option (Nat×ye))):Option AV->Prop
 | none=>f=some none
 | some v=>∃j u,f=some (some (j,u))/\ai ah m S w v u
section
variable {O:bq} {ah:Nat->Nat} {m:Mp} {S:Nat->Prop} {w:yg}
def X9 {vk vk':AV} {k k':ye} {r:Bool} {d:vh} (hk:ai ah m S w vk k) (sS:ai ah m S w vk' k') (h:D8 vk vk'=some r)
  (hd:fits d vk=true):Instr.sameNow d k k'=some r:=by
 unfold D8 at h
 split at h
 ·rename_i j x j' y;simp only [ai] at hk sS;subst hk;subst sS;by_cases hj:j=j'
  ·simp only [hj,xh,yc] at h;subst hj;cases d<;>simp [fits] at hd
   simpa [Instr.sameNow] using h
  ·simp [hj] at h
 ·simp only [ai] at hk sS;obtain ⟨s,rfl,rfl⟩:=hk;obtain ⟨s',rfl,rfl⟩:=sS;simp only [yc] at h;cases d<;>simp [fits] at hd
  simp only [Instr.sameNow,Xn];rw [<-h];rfl
 ·simp only [ai] at hk sS;subst hk;subst sS;simp only [yc] at h;cases d<;>simp [fits] at hd
  simp [Instr.sameNow,h]
 ·cases h
def PP {vk:AV} {k:ye} {d:vh} (hk:ai ah m S w vk k)
  (hd:fits d vk=true):∀(ks vs:List AV) (es:List ui) (i:Nat) (r:Option AV),
  ap ah m S w ks (es.map (·.key))->ap ah m S w vs (es.map (·.val))->B2 vk ks vs=some r->Found ah m S w (Instr.findNow d k es i) r
 | [],vs,es,i,r,h1,h2,h=>by
  simp only [ap,List.map_eq_nil_iff] at h1;subst h1;simp only [B2,yc] at h;subst h;rfl
 | c::ks,[],es,i,r,h1,h2,h=>by simp only [B2] at h;cases h
 | c::ks,v::vs,es,i,r,h1,h2,h=>by
  cases es with
  | nil=>simp [ap] at h1
  | cons e es=>
   simp only [yS,ap,List.cons.injEq] at h1 h2;obtain ⟨u,t,⟨rfl,rfl⟩,hc,NS⟩:=h1;obtain ⟨u',t',⟨rfl,rfl⟩,hv,sT⟩:=h2;simp only [B2] at h
   cases sU:D8 vk c with
   | none=>simp [sU] at h
   | some b=>
    have hs:=X9 (d:=d) hk hc sU hd
    cases b with
    | true=>
     simp only [sU,yc] at h;subst h;exact ⟨i,e.val,by simp [Instr.findNow,hs],hv⟩
    | false=>
     simp only [sU] at h;have ih:=PP hk hd ks vs es (i+1) r NS sT h;simpa [Instr.findNow,hs] using ih
def Kr {P:y9} {kt:yx} {d:vh} (hu:P.underlying kt=some d) (hd:Mv d=true) (b:Bool) (k:ye):(Instr.checkKey b 10000 kt k).run P w= .ok () w:=by
 have:∀n,(Instr.checkKey b (n+1) kt k).run P w= .ok () w:=by
  intro n;cases d<;>simp [Mv] at hd<;>simp [Instr.checkKey,run_underlying hu]
 exact this 9999
def aoi {t kt e:yx} {d:vh} {ok:Bool} {hp:Hp} {ct:Nat} {vx vk v:AV} {x k zero:ye} (hh:aV O m S w hp ct) (hu:O.P.underlying t=some (.map kt e)) (hk:O.P.underlying kt=some d) (hd:Mv d=true)
  (hdk:fits d vk=true)
  (hz:(zeroValue e).run O.P w= .ok zero w) (hx:ai O.ah m S w vx x) (hkr:ai O.ah m S w vk k) {z:AV} (TK:ai O.ah m S w z zero)
  {r:Option AV}
  (hr:z7 hp vk vx=some r)
  (hv:(match r with | some u=>(bif ok then AV.aq [u,.bool true] else u) | none=>(bif ok then AV.aq [z,.bool false] else z))=v):
  ∃u,(Instr.lookup t x k ok).run O.P w= .ok u w/\ai O.ah m S w v u:=by
 have fin:∀(u:AV) (uu:ye) (b:Bool),ai O.ah m S w u uu->ai O.ah m S w (bif ok then AV.aq [u,.bool b] else u) (if ok then .tuple #[uu,.bool b] else uu):=by
  intro u uu b h
  cases ok with
  | true=>simp only [yy,xh,ai,ap];exact ⟨_,rfl,_,_,rfl,h,_,_,rfl,rfl,rfl⟩
  | false=>simpa using h
 have body:∀(x':ye) (es:Array ui),((x'= .map none/\es=#[])\/∃b clock,x'= .map (some b)/\w.heap[b]? =some (.map es clock))->Found O.ah m S w (Instr.findNow d k es.toList 0) r->
   ∃u,(Instr.lookup t x' k ok).run O.P w= .ok u w/\ai O.ah m S w v u:=by
  intro x' es hl hf
  cases r with
  | none=>
   have eb:Instr.findNow d k es.toList 0=some none:=hf;refine ⟨if ok then .tuple #[zero,.bool false] else zero,?_,by rw [<-hv];exact fin z zero false TK⟩
   rcases hl with ⟨rfl,rfl⟩ | ⟨b,clock,rfl,hb⟩
   ·have RS:Instr.findNow d k [] 0=some none:=rfl;simp [Instr.lookup,run_underlying hu,Kr hk hd,Instr.findKey,run_underlying hk,RS,hz]
   ·simp [Instr.lookup,run_underlying hu,getObj,Sem.run,hb,Kr hk hd,Instr.findKey,run_underlying hk,eb,hz]
  | some v'=>
   obtain ⟨j,u,h1,h2⟩:=hf;refine ⟨if ok then .tuple #[u,.bool true] else u,?_,by rw [<-hv];exact fin v' u true h2⟩
   rcases hl with ⟨rfl,rfl⟩ | ⟨b,clock,rfl,hb⟩
   ·have RS:Instr.findNow d k [] 0=some none:=rfl;rw [show (#[]:Array ui).toList=[] from rfl,RS] at h1;cases h1
   ·simp [Instr.lookup,run_underlying hu,getObj,Sem.run,hb,Kr hk hd,Instr.findKey,run_underlying hk,h1]
 cases vx<;>simp only [z7,reduceCtorEq] at hr
 case jz=>
  simp only [yc] at hr;subst hr;simp only [ai] at hx;subst hx;exact body _ #[] (.inl ⟨rfl,rfl⟩) rfl
 case map id=>
  simp only [ai] at hx;obtain ⟨p,hm,rfl⟩:=hx
  split at hr
  case h_2=>cases hr
  rename_i TJ ks vs B4;obtain ⟨p',es,clock,fK,hb,h1,h2,_⟩:=hh.obj id _ _ B4 hm;rw [hm] at fK;injection fK with fK;subst fK
  exact body _ es (.inr ⟨_,_,rfl,hb⟩) (PP hkr hdk ks vs es.toList 0 r h1 h2 hr)
 case jj ks vs=>
  simp only [ai] at hx;obtain ⟨b,es,clock,rfl,_,_,_,hb,h1,h2⟩:=hx;exact body _ es (.inr ⟨_,_,rfl,hb⟩) (PP hkr hdk ks vs es.toList 0 r h1 h2 hr)
end
end
section
open Go
def Gy:∀(k1 k2:List Nat) (a b:List AV) (r:Bool),dJ (k1++k2) a b=some r->
  ∃r1 r2,dJ k1 (a.take k1.length) (b.take k1.length)=some r1/\dJ k2 (a.drop k1.length) (b.drop k1.length)=some r2/\r=(r1&&r2)
 | [],k2,a,b,r,h=>⟨true,r,by simp [dJ],by simpa using h,by simp⟩
 | k::k1,k2,[],b,r,h=>by
  simp only [xn] at h;unfold dJ at h
  grind
 | k::k1,k2,x::a,[],r,h=>by
  unfold dJ at h
  grind
 | k::k1,k2,x::a,y::b,r,h=>by
  have step:∀(q:Bool) (f:Bool->Bool),(match dJ (k1++k2) a b with | some r=>some (f r) | none=>none)=some q->∃r0,dJ (k1++k2) a b=some r0/\q=f r0:=by grind
  unfold dJ at h
  split at h
  ·grind
  ·rename_i e1 e2 e3;obtain ⟨rfl,rfl⟩:=e1;obtain ⟨rfl,rfl⟩:=e2;obtain ⟨rfl,rfl⟩:=e3;obtain ⟨r0,h0,rfl⟩:=step r _ h;obtain ⟨r1,r2,h1,h2,rfl⟩:=Gy k1 k2 _ _ r0 h0;exact ⟨_,r2,by simp only [yu,wb,dJ,h1],by simpa using h2,(uQ _ _ _).symm⟩
  ·rename_i e1 e2 e3;obtain ⟨rfl,rfl⟩:=e1;obtain ⟨rfl,rfl⟩:=e2;obtain ⟨rfl,rfl⟩:=e3
   split at h
   ·rename_i hk;obtain ⟨r0,h0,rfl⟩:=step r _ h;obtain ⟨r1,r2,h1,h2,rfl⟩:=Gy k1 k2 _ _ r0 h0;exact ⟨_,r2,by simp only [yu,wb,dJ,h1,hk,xh],by simpa using h2,(uQ _ _ _).symm⟩
   ·cases h
  ·rename_i e1 e2 e3;obtain ⟨rfl,rfl⟩:=e1;obtain ⟨rfl,rfl⟩:=e2;obtain ⟨rfl,rfl⟩:=e3;obtain ⟨r0,h0,rfl⟩:=step r _ h;obtain ⟨r1,r2,h1,h2,rfl⟩:=Gy k1 k2 _ _ r0 h0;exact ⟨_,r2,by simp only [yu,wb,dJ,h1],by simpa using h2,(uQ _ _ _).symm⟩
  ·cases h
def We:∀(ks:List Nat) (a b:List AV) (r:Bool),dJ ks a b=some r->a.length=ks.length/\b.length=ks.length
 | [],a,b,r,h=>by
  unfold dJ at h
  grind
 | k::ks,[],b,r,h=>by
  unfold dJ at h
  grind
 | k::ks,x::a,[],r,h=>by
  unfold dJ at h
  grind
 | k::ks,x::a,y::b,r,h=>by
  have:∃r0,dJ ks a b=some r0:=by
   cases he:dJ ks a b with
   | some r0=>exact ⟨r0,rfl⟩
   | none=>unfold dJ at h;split at h<;>simp_all
  obtain ⟨r0,h0⟩:=this
  have:=We ks a b r0 h0
  simp [this]
def EU (P:y9) (t:yx) (x:ye) (xs:List ye):Prop:=(dE P t=some true/\x= .agg xs.toArray)\/(dE P t=some false/\xs=[x])
section
variable {P:y9} {ah:Nat->Nat} {m:Mp} {S:Nat->Prop} {w:yg}
def Pb {t:yx} {ag:Bool} (ha:dE P t=some ag):(isAgg t).run P w= .ok ag w:=by
 unfold dE at ha
 cases hu:P.underlying t with
 | none=>simp [hu] at ha
 | some d=>cases d<;>simp_all [isAgg,underlying]
def ajH {t:yx} {s o:Nat} {xs:List ye} (hz:cL P t=some s) (ha:∃ag,dE P t=some ag) (h1:dE P t=some false->s=1) (hl:o+s<=xs.length):
  ∃u,(part t xs.toArray o).run P w= .ok u w/\EU P t u ((xs.drop o).take s):=by
 obtain ⟨ag,ha⟩:=ha
 cases ag with
 | true=>
  refine ⟨.agg ((xs.drop o).take s).toArray,?_,.inl ⟨ha,rfl⟩⟩;simp [part,Pb ha,mB hz,List.extract_eq_take_drop]
 | false=>
  have hs:=h1 ha;subst hs;have a6:o<xs.length:=by omega
  refine ⟨xs[o],?_,.inr ⟨ha,?_⟩⟩
  ·simp [part,Pb ha,List.getElem?_eq_getElem a6]
  ·rw [List.drop_eq_getElem_cons a6,wb,List.take_zero]
def ahS {n:Nat} {t:yx} {ks:List Nat} (h:kinds P n t=some ks):∃ag,dE P t=some ag/\(ag=false->ks.length=1):=by
 cases n with
 | zero=>simp [kinds] at h
 | succ n=>
  unfold kinds at h;unfold dE
  split at h<;>simp_all
  all_goals (rw [<-h];rfl)
def Ri (P:y9) (ah:Nat->Nat) (m:Mp) (S:Nat->Prop) (w:yg) (n:Nat):Prop:=
 ∀(t:yx) (ks:List Nat),kinds P n t=some ks->P.stoodInHeld t=false->∀(d:Nat),n<=d->∀(xs ys:List ye) (cs dP:List AV) (r:Bool) (x y:ye),
  ap ah m S w cs xs->ap ah m S w dP ys->dJ ks cs dP=some r->EU P t x xs->EU P t y ys->(Op.equalIn d t x y).run P w= .ok r w
def Xo {n:Nat} (ih:Ri P ah m S w n) {t:yx} {ks:List Nat} {s o d:Nat} (hk:kinds P n t=some ks) (aR:P.stoodInHeld t=false) (hz:cL P t=some s) (hs:ks.length=s) (hd:n<=d)
  {xs ys:List ye} {cs dP:List AV} (h1:ap ah m S w cs xs) (h2:ap ah m S w dP ys) {r:Bool} (he:dJ ks ((cs.drop o).take s) ((dP.drop o).take s)=some r):
  ∃u u',(part t xs.toArray o).run P w= .ok u w/\(part t ys.toArray o).run P w= .ok u' w/\(Op.equalIn d t u u').run P w= .ok r w:=by
 obtain ⟨ag,ha,h1s⟩:=ahS hk;obtain ⟨l1,l2⟩:=We _ _ _ _ he;have q1:=iw _ _ h1;have q2:=iw _ _ h2;simp only [yQ,xY] at l1 l2;have mr:dE P t=some false->s=1:=fun h=>by
  grind
 have mq:o+s<=xs.length\/s=0:=by omega
 have mY:o+s<=ys.length\/s=0:=by omega
 have get:∀(zs:List ye),(o+s<=zs.length\/s=0)->∃u,(part t zs.toArray o).run P w= .ok u w/\EU P t u ((zs.drop o).take s):=by
  intro zs hl;rcases hl with hl | hl
  ·exact ajH hz ⟨ag,ha⟩ mr hl
  ·subst hl
   cases ag with
   | false=>have:=mr ha;omega
   | true=>
    refine ⟨.agg ((zs.drop o).take 0).toArray,?_,.inl ⟨ha,rfl⟩⟩;simp [part,Pb ha,mB hz]
 obtain ⟨u,p1,v1⟩:=get xs mq;obtain ⟨u',p2,v2⟩:=get ys mY;exact ⟨u,u',p1,p2,ih t ks hk aR d hd _ _ _ _ r u u' (Dv s (GL o h1)) (Dv s (GL o h2)) he v1 v2⟩
def Wf {n:Nat} (ih:Ri P ah m S w n) {d:Nat} (hd:n<=d) {xs ys:List ye} {cs dP:List AV} (h1:ap ah m S w cs xs) (h2:ap ah m S w dP ys):
  ∀(fs:List Field) (o:Nat) (ks:List Nat) (r:Bool),Dq P (fun u=>kinds P n u) fs o=some ks->dJ ks (cs.drop o) (dP.drop o)=some r->(Op.eqFields d xs.toArray ys.toArray fs).run P w= .ok r w
 | [],o,ks,r,h,he=>by
  simp only [Dq,yc] at h;unfold dJ at he
  split at he<;>simp_all [Op.eqFields]
 | f::fs,o,ks,r,h,he=>by
  simp only [Dq] at h
  cases hk:kinds P n f.type with
  | none=>simp [hk] at h
  | some kf=>
   cases hz:cL P f.type with
   | none=>simp [hk,hz] at h
   | some s=>
    simp only [hk,hz] at h
    cases hc:(f.name != "_"&&yt f.offset o&&yt kf.length s&& !P.stoodInHeld f.type) with
    | false=>rw [hc] at h;cases h
    | true=>
     rw [hc] at h;simp only [yy] at h;simp only [yf,bne_iff_ne,vV] at hc;obtain ⟨⟨⟨hn,ho⟩,hl⟩,aR⟩:=hc;have ho:=yk ho;have hl:=yk hl
     cases hr:Dq P (fun u=>kinds P n u) fs (o+s) with
     | none=>simp [hr] at h
     | some kr=>
      simp only [hr,yc] at h;subst h;obtain ⟨r1,r2,e1,e2,rfl⟩:=Gy _ _ _ _ _ he;rw [hl] at e1 e2;rw [wQ,wQ] at e2;obtain ⟨u,u',p1,p2,p3⟩:=Xo ih (o:=o) hk aR hz hl hd h1 h2 e1;have rest:=Wf ih hd h1 h2 fs (o+s) kr r2 hr e2;subst ho;simp only [Op.eqFields]
      cases r1 with
      | true=>simp [hn,p1,p2,p3,rest]
      | false=>simp [hn,p1,p2,p3]
def WB {n:Nat} (ih:Ri P ah m S w n) {d:Nat} (hd:n<=d) {xs ys:List ye} {cs dP:List AV} (h1:ap ah m S w cs xs) (h2:ap ah m S w dP ys)
  {e:yx} {ks:List Nat} {s:Nat} (hk:kinds P n e=some ks) (aR:P.stoodInHeld e=false) (hz:cL P e=some s) (hl:ks.length=s):
  ∀(k j:Nat) (r:Bool),dJ (yH k ks).flatten (cs.drop (j*s)) (dP.drop (j*s))=some r->(Op.eqItems d e s xs.toArray ys.toArray (List.range' j k)).run P w= .ok r w
 | 0,j,r,he=>by
  unfold dJ at he
  split at he<;>simp_all [Op.eqItems]
 | k+1,j,r,he=>by
  obtain ⟨r1,r2,e1,e2,rfl⟩:=Gy _ _ _ _ _ he;rw [hl] at e1 e2;rw [wQ,wQ,show j*s+s=(j+1)*s by rw [we,ybp]] at e2;obtain ⟨u,u',p1,p2,p3⟩:=Xo ih (o:=j*s) hk aR hz hl hd h1 h2 e1;have rest:=WB ih hd h1 h2 hk aR hz hl k (j+1) r2 e2;rw [List.range'_succ];simp only [Op.eqItems]
  cases r1 with
  | true=>simp [p1,p2,p3,rest]
  | false=>simp [p1,p2,p3]
def QI:∀(n:Nat) (t:yx) (ks:List Nat),kinds P n t=some ks->P.stoodInHeld t=false->∀(d:Nat),n<=d->∀(xs ys:List ye) (cs dP:List AV) (r:Bool) (x y:ye),
  ap ah m S w cs xs->ap ah m S w dP ys->dJ ks cs dP=some r->EU P t x xs->EU P t y ys->(Op.equalIn d t x y).run P w= .ok r w
 | 0,t,ks,h,_,_,_,_,_,_,_,_,_,_,_,_,_,_,_=>by simp [kinds] at h
 | n+1,t,ks,h,aR,0,hd,_,_,_,_,_,_,_,_,_,_,_,_=>by omega
 | n+1,t,ks,h,aR,d+1,hd,xs,ys,cs,dP,r,x,y,h1,h2,he,hx,hy=>by
  unfold kinds at h;have one:∀{k:Nat},ks=[k]->dE P t=some false->∃c c',cs=[c]/\dP=[c']/\ai ah m S w c x/\ai ah m S w c' y:=by
   intro k hk ha;rcases hx with ⟨hx,_⟩ | ⟨_,rfl⟩
   ·grind
   rcases hy with ⟨hy,_⟩ | ⟨_,rfl⟩
   ·grind
   have l1:=iw _ _ h1;have l2:=iw _ _ h2
   match cs,dP,l1,l2 with
   | [c],[c'],_,_=>
    simp only [ap] at h1 h2
    grind
  split at h
  ·rename_i hu;simp only [yc] at h;have ha:dE P t=some false:=by simp [dE,hu]
   obtain ⟨c,c',rfl,rfl,r1,r2⟩:=one h.symm ha;subst h;unfold dJ at he
   split at he<;>simp_all [dJ]
   subst he;simp only [ai] at r1 r2;subst r1;subst r2;simp [Op.equalIn,run_underlying hu]
  ·rename_i k0 hu;simp only [yc] at h;have ha:dE P t=some false:=by simp [dE,hu]
   obtain ⟨c,c',rfl,rfl,r1,r2⟩:=one h.symm ha;subst h;unfold dJ at he
   split at he<;>simp_all [dJ]
   obtain ⟨hk,he⟩:=he;subst he;simp only [ai] at r1 r2;subst r1;subst r2;simp [Op.equalIn,run_underlying hu]
  ·rename_i hu;simp only [yc] at h;have ha:dE P t=some false:=by simp [dE,hu]
   obtain ⟨c,c',rfl,rfl,r1,r2⟩:=one h.symm ha;subst h;unfold dJ at he
   split at he<;>simp_all [dJ]
   subst he;simp only [ai] at r1 r2;obtain ⟨s,rfl,rfl⟩:=r1;obtain ⟨s',rfl,rfl⟩:=r2;simp only [Op.equalIn,Sem.run_bind,run_underlying hu,Result.andThen_ok,Sem.run_pure,Xn];rfl
  ·rename_i fs hu;have ha:dE P t=some true:=by simp [dE,hu]
   rcases hx with ⟨_,rfl⟩ | ⟨hx,_⟩
   ·rcases hy with ⟨_,rfl⟩ | ⟨hy,_⟩
    ·have hf:P.fieldsOf t=fs:=by simp [Program.fieldsOf,hu]
     rw [run_equalIn_struct w d t _ _ (by rw [hf];exact hu) aR,hf]
     exact Wf (QI n) (by omega) h1 h2 fs.toList 0 ks r h (by simpa using he)
    ·rw [ha] at hy;cases hy
   ·rw [ha] at hx;cases hx
  ·rename_i k e hu;have ha:dE P t=some true:=by simp [dE,hu]
   rcases hx with ⟨_,rfl⟩ | ⟨hx,_⟩
   ·rcases hy with ⟨_,rfl⟩ | ⟨hy,_⟩
    ·cases hk:kinds P n e with
     | none=>simp [hk] at h
     | some ke=>
      cases hz:cL P e with
      | none=>simp [hk,hz] at h
      | some s=>
       simp only [hk,hz] at h
       cases hc:(yt ke.length s&& !P.stoodInHeld e) with
       | false=>rw [hc] at h;cases h
       | true=>
        rw [hc] at h;simp only [yy,yc] at h;subst h;simp only [yf,vV] at hc;have dZ:=hz;unfold cL at dZ
        cases hi:P.info? e with
        | none=>simp [hi] at dZ
        | some i=>
         simp only [hi,yc] at dZ;have iY:P.cellsOf e=s:=by simp [Program.cellsOf,hi,dZ]
         rw [run_equalIn_array w d _ _ hu hi,iY,List.range_eq_range'];exact WB (QI n) (by omega) h1 h2 hk hc.2 hz (yk hc.1) k 0 r (by simpa using he)
    ·rw [ha] at hy;cases hy
   ·rw [ha] at hx;cases hx
  ·cases h
end
end
section
open Go
def dt {tm:Env} {hp:Hp} {v:AV} (h:bw tm hp bad=some v):False:=by simp [bad,bw] at h
section
variable {O:bq} {H:Hint} {m:Mp} {S:Nat->Prop} {w:yg} {tm:Env} {a:Act} {hp:Hp} {ct:Nat}
def alX {ah:Nat->Nat} {va vb v:AV} {x y:ye} (hx:ai ah m S w va x) (hy:ai ah m S w vb y) (h:VE.min2 va vb=some v):∃u,(Builtin.min2 x y).run O.P w= .ok u w/\ai ah m S w v u:=by
 unfold VE.min2 at h
 split at h
 ·simp only [ai] at hx hy;subst hx;subst hy;simp only [yc] at h;subst h;exact ⟨_,by simp only [Builtin.min2,Sem.run_pure];rfl,by simp only [ai]⟩
 ·rename_i k p k' q;simp only [ai] at hx hy;subst hx;subst hy
  cases ho:k.format.order p q with
  | none=>simp [ho] at h
  | some c=>cases c<;>(simp only [ho,yc] at h;subst h;exact ⟨_,by simp only [Builtin.min2,ho,Sem.run_pure];rfl,by simp only [ai]⟩)
 ·cases h
def alY {ah:Nat->Nat} {va vb v:AV} {x y:ye} (hx:ai ah m S w va x) (hy:ai ah m S w vb y) (h:VE.max2 va vb=some v):∃u,(Builtin.max2 x y).run O.P w= .ok u w/\ai ah m S w v u:=by
 unfold VE.max2 at h
 split at h
 ·simp only [ai] at hx hy;subst hx;subst hy;simp only [yc] at h;subst h;exact ⟨_,by simp only [Builtin.max2,Sem.run_pure];rfl,by simp only [ai]⟩
 ·rename_i k p k' q;simp only [ai] at hx hy;subst hx;subst hy
  cases ho:k.format.order p q with
  | none=>simp [ho] at h
  | some c=>cases c<;>(simp only [ho,yc] at h;subst h;exact ⟨_,by simp only [Builtin.max2,ho,Sem.run_pure];rfl,by simp only [ai]⟩)
 ·cases h
def Qe {ah:Nat->Nat} {f:AV->AV->Option AV} {g:ye->ye->Sem ye} (hfg:∀va vb v x y,ai ah m S w va x->ai ah m S w vb y->f va vb=some v->∃u,(g x y).run O.P w= .ok u w/\ai ah m S w v u):
  ∀(l:List AV) (us:List ye) (va v:AV) (x:ye),ai ah m S w va x->ap ah m S w l us->zZ f va l=some v->∃u,(us.foldlM g x).run O.P w= .ok u w/\ai ah m S w v u
 | [],us,va,v,x,hx,hl,h=>by
  simp only [ap] at hl;subst hl;simp only [zZ,yc] at h;subst h;exact ⟨x,by simp,hx⟩
 | b::l,us,va,v,x,hx,hl,h=>by
  simp only [ap] at hl;obtain ⟨u,r,rfl,hu,hr⟩:=hl;simp only [zZ] at h
  cases hf:f va b with
  | none=>simp [hf] at h
  | some c=>
   simp only [hf] at h;obtain ⟨u1,h1,h2⟩:=hfg _ _ _ _ _ hx hu hf;obtain ⟨u2,h3,h4⟩:=Qe hfg l r c v u1 h2 hr h;exact ⟨u2,by simp [h1,h3],h4⟩
def QJ {t:yx} {vx v:AV} {x:ye} {ty:yx} (hh:aV O m S w hp ct) (hx:ai O.ah m S w vx x)
  {k:Nat} (hu:(k=0/\O.P.underlying t=some .string)\/(k=1/\∃e,O.P.underlying t=some (.slice e))\/(k=2/\∃kt e,O.P.underlying t=some (.map kt e)))
  (h:gV hp k vx=some v):∃u,(Builtin.len_ #[t] ty #[x]).run O.P w= .ok u w/\ai O.ah m S w v u:=by
 rcases hu with ⟨rfl,hu⟩ | ⟨rfl,e,hu⟩ | ⟨rfl,kt,e,hu⟩
 all_goals cases vx<;>simp only [gV,reduceCtorEq] at h
 case inl.str s=>
  simp only [ai] at hx;obtain ⟨b,rfl,rfl⟩:=hx;simp only [yc] at h;subst h;refine ⟨_,by simp [Builtin.len_,run_underlying hu];rfl,?_⟩
  simp only [ai,goInt];rw [Lib.size_eq];simp
 case inr.inl.ab=>
  simp only [ai] at hx;subst hx;simp only [yc] at h;subst h;exact ⟨_,by simp [Builtin.len_,run_underlying hu];rfl,by simp [ai,goInt]⟩
 case inr.inl.aH ex n cs=>
  simp only [ai] at hx;rcases hx with ⟨b,o,c,rfl,_⟩ | ⟨a,rfl,rfl,rfl⟩
  all_goals
   simp only [yc] at h;subst h;exact ⟨_,by simp [Builtin.len_,run_underlying hu];rfl,by simp [ai,goInt]⟩
 case inr.inl.aE id o n=>
  simp only [ai] at hx;obtain ⟨p,c,_,rfl,_⟩:=hx;simp only [yc] at h;subst h;exact ⟨_,by simp [Builtin.len_,run_underlying hu];rfl,by simp [ai,goInt]⟩
 case inr.inr.jz=>
  simp only [ai] at hx;subst hx;simp only [yc] at h;subst h;exact ⟨_,by simp [Builtin.len_,run_underlying hu];rfl,by simp [ai,goInt]⟩
 case inr.inr.jj ks vs=>
  simp only [ai] at hx;obtain ⟨b,es,clock,rfl,_,_,_,hb,h1,_⟩:=hx;simp only [yc] at h;subst h;refine ⟨_,by simp [Builtin.len_,run_underlying hu,getObj,Sem.run,hb];rfl,?_⟩
  have:=iw _ _ h1
  simp only [ai,goInt];rw [<-this];simp
 case inr.inr.map id=>
  simp only [ai] at hx;obtain ⟨p,hm,rfl⟩:=hx
  split at h
  case h_2=>cases h
  rename_i TJ ks vs B4;simp only [yc] at h;subst h;obtain ⟨p',es,clock,fK,hb,h1,_⟩:=hh.obj id _ _ B4 hm;rw [hm] at fK;injection fK with fK;subst fK
  refine ⟨_,by simp [Builtin.len_,run_underlying hu,getObj,Sem.run,hb];rfl,?_⟩
  have:=iw _ _ h1
  simp only [ai,goInt];rw [<-this];simp
end
end
section
open Go
section
variable {O:bq} {H:Hint} {m:Mp} {S:Nat->Prop} {w:yg} {tm:Env} {a:Act} {hp:Hp} {ct:Nat}
def DD {t:yx} {z:AV} (h:mg O.P t=some z):∃v,(zeroValue t).run O.P w= .ok v w/\z=ek v:=by
 unfold mg at h
 cases hi:O.P.info? t with
 | none=>simp [hi] at h
 | some i=>
  simp only [hi] at h
  cases hz:i.zero with
  | none=>simp [hz] at h
  | some v=>
   simp only [hz,yc] at h;exact ⟨v,by simp [zeroValue,typeInfo,hi,hz],h.symm⟩
def Reads (O:bq) (m:Mp) (S:Nat->Prop) (w:yg) (a:Act) (o:y5) (v:AV):Prop:=
 ∃u,(execOp a.eval o).run O.P w= .ok (.value u) w/\ai O.ah m S w v u
def jt {o:y5} {v:AV} {s:Sem ye} (he:execOp a.eval o=(do pure (.value (<-s)):Sem Next)) (h:∃u,s.run O.P w= .ok u w/\ai O.ah m S w v u):Reads O m S w a o v:=by
 obtain ⟨u,h1,h2⟩:=h;exact ⟨u,by rw [he];simp [h1],h2⟩
def ajI {o:y5} {op:BinOp} {t ty:yx} {x y:xu} {k:Nat} {v:AV} (hH:fp O H) (ht:cf O m S w tm a.tmps) (ho:o.op= .binOp op t x y ty)
  (hv:bw tm hp (bl O.P H k o)=some v):Reads O m S w a o v:=by
 have rx:=cD hH ht x;have ry:=cD hH ht y;have guard:∀{u:ye},(∀xs ys,¬(a.eval x= .agg xs/\a.eval y= .agg ys))\/O.P.eqGuardType O.P.depth t=false->a.eval x≠.nilIface->(xJ op t (a.eval x) (a.eval y)).run O.P w= .ok u w->
   (do eqGuard op t x y (a.eval x) (a.eval y);xJ op t (a.eval x) (a.eval y):Sem ye).run O.P w= .ok u w:=by
  intro u h1 h2 h3
  simp only [Sem.run_bind,agV (P:=O.P) (w:=w) (t:=t) (op:=op) (x:=x) (y:=y) (h1.symm) h2,Result.andThen_ok,h3]
 have plain:bw tm hp (.bin op (aS H x) (aS H y))=some v->Reads O m S w a o v:=by
  intro hv;simp only [bw] at hv;obtain ⟨u,h1,h2⟩:=ajE (P:=O.P) (t:=t) rx ry hv
  refine jt (s:=do eqGuard op t x y (a.eval x) (a.eval y);xJ op t (a.eval x) (a.eval y)) (by simp only [execOp,ho]) ⟨u,guard (.inl ?_) ?_ h1,h2⟩
  ·rintro xs ys ⟨e1,e2⟩;rw [e1] at rx;unfold VE.binOp at hv
   split at hv
   ·rename_i h3 _;rw [h3] at rx;simp [ai] at rx
   ·rename_i h3 _;rw [h3] at rx;simp [ai] at rx
   ·rename_i h3 _;rw [h3] at rx;simp [ai] at rx
   ·cases hv
  ·intro e1;rw [e1] at rx;unfold VE.binOp at hv
   split at hv
   ·rename_i h3 _;rw [h3] at rx;simp [ai] at rx
   ·rename_i h3 _;rw [h3] at rx;simp [ai] at rx
   ·rename_i h3 _;rw [h3] at rx;simp [ai] at rx
   ·cases hv
 have other:∀(ne:Bool) (kd:VE.NO),(op= .eql/\ne=false\/op= .neq/\ne=true)->(∀r,iU kd (az tm (aS H x)) (az tm (aS H y))=some r->(Op.equal t (a.eval x) (a.eval y)).run O.P w= .ok r w/\
    ((∀xs ys,¬(a.eval x= .agg xs/\a.eval y= .agg ys))\/O.P.eqGuardType O.P.depth t=false)/\a.eval x≠.nilIface/\
    ∀q:Bool,(op= .eql->xJ op t (a.eval x) (a.eval y)=(do pure (.bool (<-Op.equal t (a.eval x) (a.eval y)))))/\(op= .neq->xJ op t (a.eval x) (a.eval y)=(do pure (.bool (!(<-Op.equal t (a.eval x) (a.eval y)))))))->
   bw tm hp (.eq ne kd (aS H x) (aS H y))=some v->Reads O m S w a o v:=by
  intro ne kd jn lH hv;simp only [bw] at hv
  cases he:iU kd (az tm (aS H x)) (az tm (aS H y)) with
  | none=>simp [he] at hv
  | some r=>
   simp only [he,yc] at hv;subst hv;obtain ⟨h1,h2,h3,h4⟩:=lH r he;obtain ⟨h5,h6⟩:=h4 true
   refine jt (s:=do eqGuard op t x y (a.eval x) (a.eval y);xJ op t (a.eval x) (a.eval y)) (by simp only [execOp,ho]) ⟨.bool (ne !=r),guard h2 h3 ?_,by simp [ai]⟩
   rcases jn with ⟨rfl,rfl⟩ | ⟨rfl,rfl⟩
   ·rw [h5 rfl];simp [h1]
   ·rw [h6 rfl];simp [h1]
 have pB:O.P.underlying t=some .bool->∀r,iU .b (az tm (aS H x)) (az tm (aS H y))=some r->∃p q,a.eval x= .bool p/\a.eval y= .bool q/\(Op.equal t (a.eval x) (a.eval y)).run O.P w= .ok r w:=by
  intro hu r he;cases hx:az tm (aS H x)<;>cases hy:az tm (aS H y)<;>rw [hx,hy] at he<;>simp only [iU,reduceCtorEq] at he
  rw [hx] at rx;rw [hy] at ry;simp only [ai] at rx ry;simp only [yc] at he;refine ⟨_,_,rx,ry,?_⟩;rw [rx,ry,K0,<-he];exact aob hu
 have pS:∀e,O.P.underlying t=some (.slice e)->∀r,iU .sl (az tm (aS H x)) (az tm (aS H y))=some r->∃p n c q n' c',a.eval x= .slice p n c/\a.eval y= .slice q n' c'/\(Op.equal t (a.eval x) (a.eval y)).run O.P w= .ok r w:=by
  intro e hu r he;have h1:=alU hu rx ry he;have sl:∀{v:AV} {u:ye},ai O.ah m S w v u->(v= .ab\/(∃a b c,v= .aH a b c)\/∃a b c,v= .aE a b c)->∃p n c,u= .slice p n c:=by
   intro v u hr hv;rcases hv with rfl | ⟨_,_,_,rfl⟩ | ⟨_,_,_,rfl⟩
   ·simp only [ai] at hr;exact ⟨_,_,_,hr⟩
   ·simp only [ai] at hr;rcases hr with ⟨b,o,c,hr,_⟩ | ⟨_,hr,_⟩<;>exact ⟨_,_,_,hr⟩
   ·simp only [ai] at hr;obtain ⟨b,c,_,hr,_⟩:=hr;exact ⟨_,_,_,hr⟩
  have cT:(az tm (aS H x)= .ab\/(∃a b c,az tm (aS H x)= .aH a b c)\/∃a b c,az tm (aS H x)= .aE a b c)/\
    (az tm (aS H y)= .ab\/(∃a b c,az tm (aS H y)= .aH a b c)\/∃a b c,az tm (aS H y)= .aE a b c):=by
   cases hx:az tm (aS H x)<;>cases hy:az tm (aS H y)<;>rw [hx,hy] at he<;>simp [iU] at he ⊢
  obtain ⟨p,n,c,e1⟩:=sl rx cT.1;obtain ⟨q,n',c',e2⟩:=sl ry cT.2;exact ⟨p,n,c,q,n',c',e1,e2,h1⟩
 have pF:∀ps rs vr,O.P.underlying t=some (.func ps rs vr)->∀r,iU .fn (az tm (aS H x)) (az tm (aS H y))=some r->
   ((a.eval x= .nilFunc\/∃f p q,a.eval x= .func f p q)/\(a.eval y= .nilFunc\/∃f p q,a.eval y= .func f p q))/\(Op.equal t (a.eval x) (a.eval y)).run O.P w= .ok r w:=by
  intro ps rs vr hu r he;have h1:=alV hu rx ry he;have sl:∀{v:AV} {u:ye},ai O.ah m S w v u->(v= .ib\/(∃a b c,v= .fn a b c))->(u= .nilFunc\/∃f p q,u= .func f p q):=by
   intro v u hr hv;rcases hv with rfl | ⟨f,_,_,rfl⟩
   ·simp only [ai] at hr;exact .inl hr
   ·cases f with
    | f g=>simp only [ai] at hr;obtain ⟨b,c,hr,_⟩:=hr;exact .inr ⟨_,_,_,hr⟩
    | y l=>simp only [ai] at hr;obtain ⟨b,_,hr⟩:=hr;exact .inr ⟨_,_,_,hr⟩
  have cT:(az tm (aS H x)= .ib\/(∃a b c,az tm (aS H x)= .fn a b c))/\(az tm (aS H y)= .ib\/(∃a b c,az tm (aS H y)= .fn a b c)):=by
   cases hx:az tm (aS H x)<;>cases hy:az tm (aS H y)<;>rw [hx,hy] at he<;>simp [iU] at he ⊢
  exact ⟨⟨sl rx cT.1,sl ry cT.2⟩,h1⟩
 have pA:∀ks,kinds O.P 20 t=some ks->dE O.P t=some true->O.P.stoodInHeld t=false->∀r,iU (.ag ks) (az tm (aS H x)) (az tm (aS H y))=some r->∃p q,a.eval x= .agg p/\a.eval y= .agg q/\(Op.equal t (a.eval x) (a.eval y)).run O.P w= .ok r w:=by
  intro ks hk ha aR r he;cases hx:az tm (aS H x)<;>cases hy:az tm (aS H y)<;>rw [hx,hy] at he<;>simp only [iU,reduceCtorEq] at he
  rw [hx] at rx;rw [hy] at ry;simp only [ai] at rx ry;obtain ⟨p,e1,h1⟩:=rx;obtain ⟨q,e2,h2⟩:=ry;refine ⟨p,q,e1,e2,?_⟩;rw [e1,e2,K0];exact QI 20 t ks hk aR 10000 (by omega) _ _ _ _ r _ _ h1 h2 he (.inl ⟨ha,by simp⟩) (.inl ⟨ha,by simp⟩)
 have eqs:∀(ne:Bool),(op= .eql/\ne=false\/op= .neq/\ne=true)->bw tm hp (pQ O.P H ne op t x y)=some v->Reads O m S w a o v:=by
  intro ne jn hv;have agg:dE O.P t=some true->bw tm hp (rL O.P H ne t x y)=some v->Reads O m S w a o v:=by
   intro ha hv;unfold rL at hv
   cases hk:kinds O.P 20 t with
   | none=>rw [hk] at hv;exact (dt hv).elim
   | some ks=>
    simp only [hk] at hv
    cases hc:(O.P.stoodInHeld t||O.P.eqGuardType O.P.depth t) with
    | true=>rw [hc] at hv;exact (dt hv).elim
    | false=>
     rw [hc] at hv;simp only [yM] at hv;simp only [Bool.or_eq_false_iff] at hc;refine other ne (.ag ks) jn (fun r hr=>?_) hv;obtain ⟨p,q,e1,e2,h1⟩:=pA ks hk ha hc.1 r hr;refine ⟨h1,.inr hc.2,by rw [e1];simp,fun _=>?_⟩
     rw [e1,e2];exact ⟨fun e=>by subst e;rfl,fun e=>by subst e;rfl⟩
  unfold pQ at hv
  split at hv
  ·exact plain hv
  ·exact plain hv
  ·exact plain hv
  ·rename_i hu;refine other ne .b jn (fun r hr=>?_) hv;obtain ⟨p,q,e1,e2,h1⟩:=pB hu r hr;refine ⟨h1,.inl (by rw [e1];simp),by rw [e1];simp,fun _=>?_⟩
   rw [e1,e2];exact ⟨fun e=>by subst e;rfl,fun e=>by subst e;rfl⟩
  ·rename_i e hu;refine other ne .sl jn (fun r hr=>?_) hv;obtain ⟨p,n,c,q,n',c',e1,e2,h1⟩:=pS e hu r hr;refine ⟨h1,.inl (by rw [e1];simp),by rw [e1];simp,fun _=>?_⟩
   rw [e1,e2];exact ⟨fun e=>by subst e;rfl,fun e=>by subst e;rfl⟩
  ·rename_i ps rs vr hu;refine other ne .fn jn (fun r hr=>?_) hv;obtain ⟨⟨e1,e2⟩,h1⟩:=pF ps rs vr hu r hr;refine ⟨h1,.inl ?_,?_,fun _=>?_⟩
   ·rcases e1 with e1 | ⟨_,_,_,e1⟩<;>rw [e1]<;>simp
   ·rcases e1 with e1 | ⟨_,_,_,e1⟩<;>rw [e1]<;>simp
   ·rcases e1 with e1 | ⟨_,_,_,e1⟩<;>rcases e2 with e2 | ⟨_,_,_,e2⟩<;>rw [e1,e2]<;>exact ⟨fun e=>by subst e;rfl,fun e=>by subst e;rfl⟩
  ·rename_i fs hu;exact agg (by simp [dE,hu]) hv
  ·rename_i k0 e hu;exact agg (by simp [dE,hu]) hv
  ·exact (dt hv).elim
 cases op
 case eql=>exact eqs false (.inl ⟨rfl,rfl⟩) (by simpa only [bl,ho] using hv)
 case neq=>exact eqs true (.inr ⟨rfl,rfl⟩) (by simpa only [bl,ho] using hv)
 all_goals exact plain (by simpa only [bl,ho] using hv)
end
end
section
open Go
section
variable {O:bq} {H:Hint} {m:Mp} {S:Nat->Prop} {w:yg} {tm:Env} {a:Act} {hp:Hp} {ct:Nat}
def Gz {o:y5} {b:Builtin} {args:Array xu} {ts:Array yx} (ho:o.op= .call {callee:= .builtin b,args:=args,argTypes:=ts}):
  ∃cs,(execOp a.eval o).run O.P w=(builtin b ts o.type cs (args.map a.eval)).run O.P w:=by
 exact ⟨_,by simp only [execOp,ho,resolve,Sem.run_bind,Sem.run_pure,Result.andThen_ok,invoke];rfl⟩
def ahT {o:y5} {c:Call} {k:Nat} {v:AV} (hH:fp O H) (ht:cf O m S w tm a.tmps) (hh:aV O m S w hp ct) (ho:o.op= .call c)
  (hv:bw tm hp (bl O.P H k o)=some v):Reads O m S w a o v:=by
 obtain ⟨callee,args,ts⟩:=c;simp only [bl,ho] at hv
 split at hv
 ·cases TL:H.mode k<;>simp [TL,bw] at hv
 ·rename_i _ b
  split at hv
  ·have key:∀{bb:Bool} {sz cG:Nat} {x y:X},bw tm hp (bif bb then .dl sz cG x y else bad)=some v->False:=by
    intro bb sz cG x y h
    cases bb
    ·exact dt h
    ·simp [bw] at h
   split at hv
   ·split at hv
    ·exact (key hv).elim
    ·simp_all
   ·split at hv
    ·exact (key hv).elim
    ·simp_all
   ·simp_all
  ·rename_i x t gE ol;obtain ⟨al⟩:=args;obtain ⟨tl⟩:=ts;simp only at gE ol;subst gE;subst ol;obtain ⟨cs,fW⟩:=Gz (O:=O) (w:=w) (a:=a) ho;have fin:(∃u,(Builtin.len_ #[t] o.type #[a.eval x]).run O.P w= .ok u w/\ai O.ah m S w v u)->Reads O m S w a o v:=by
    rintro ⟨u,h1,h2⟩;refine ⟨u,?_,h2⟩;rw [fW];simp [builtin,h1]
   split at hv
   ·rename_i n e hu;simp only [bw,az,yc] at hv;subst hv;exact fin ⟨_,by simp [Builtin.len_,run_underlying hu];rfl,by simp [ai,goInt]⟩
   ·rename_i hu;simp only [bw] at hv;exact fin (QJ hh (cD hH ht x) (.inl ⟨rfl,hu⟩) hv)
   ·rename_i e hu;simp only [bw] at hv;exact fin (QJ hh (cD hH ht x) (.inr (.inl ⟨rfl,e,hu⟩)) hv)
   ·rename_i kt e hu;simp only [bw] at hv;exact fin (QJ hh (cD hH ht x) (.inr (.inr ⟨rfl,kt,e,hu⟩)) hv)
   ·exact (dt hv).elim
  ·split at hv
   ·split at hv
    ·simp [bw] at hv
    ·exact (dt hv).elim
   ·exact (dt hv).elim
  ·simp only [bw] at hv;obtain ⟨cs,fW⟩:=Gz (O:=O) (w:=w) (a:=a) ho;have hl:=BF hH ht args.toList
   cases hx:di tm (gH H args.toList) with
   | nil=>simp [hx] at hv
   | cons c r=>
    simp only [hx] at hv;rw [hx] at hl;simp only [ap] at hl;obtain ⟨u,us,h1,h2,h3⟩:=hl;obtain ⟨q,h4,h5⟩:=Qe (O:=O) (g:=Builtin.min2) (fun va vb v x y hx hy h=>alX hx hy h) r us c v u h2 h3 hv;refine ⟨q,?_,h5⟩;rw [fW];simp [builtin,Builtin.min_,h1,h4]
  ·simp only [bw] at hv;obtain ⟨cs,fW⟩:=Gz (O:=O) (w:=w) (a:=a) ho;have hl:=BF hH ht args.toList
   cases hx:di tm (gH H args.toList) with
   | nil=>simp [hx] at hv
   | cons c r=>
    simp only [hx] at hv;rw [hx] at hl;simp only [ap] at hl;obtain ⟨u,us,h1,h2,h3⟩:=hl;obtain ⟨q,h4,h5⟩:=Qe (O:=O) (g:=Builtin.max2) (fun va vb v x y hx hy h=>alY hx hy h) r us c v u h2 h3 hv;refine ⟨q,?_,h5⟩;rw [fW];simp [builtin,Builtin.max_,h1,h4]
  ·exact (dt hv).elim
 ·exact (dt hv).elim
def WC {kt:yx} {kk:Nat} {vk:AV} (hk:keyOf O.P kt=some kk) (h:rK kk vk=true):∃d,O.P.underlying kt=some d/\Mv d=true/\fits d vk=true:=by
 unfold keyOf at hk
 split at hk
 ·rename_i hu;simp only [yc] at hk;subst hk;refine ⟨_,hu,rfl,?_⟩;cases vk<;>simp_all [rK,fits]
 ·rename_i hu;simp only [yc] at hk;subst hk;refine ⟨_,hu,rfl,?_⟩;cases vk<;>simp_all [rK,fits]
 ·rename_i hu;simp only [yc] at hk;subst hk;refine ⟨_,hu,rfl,?_⟩;cases vk<;>simp_all [rK,fits]
 ·cases hk
def Y4 {o:y5} {k:Nat} {v:AV} (hH:fp O H) (ht:cf O m S w tm a.tmps) (hh:aV O m S w hp ct)
  (hv:bw tm hp (bl O.P H k o)=some v):Reads O m S w a o v:=by
 cases ho:o.op with
 | call c=>exact ahT hH ht hh ho hv
 | binOp op t x y ty=>exact ajI hH ht ho hv
 | move x=>
  simp only [bl,ho,bw,yc] at hv;subst hv;exact ⟨_,by simp only [execOp,ho,Sem.run_pure],cD hH ht x⟩
 | assign x=>
  simp only [bl,ho,bw,yc] at hv;subst hv;exact ⟨_,by simp only [execOp,ho,Sem.run_pure],cD hH ht x⟩
 | pick c x y=>
  simp only [bl,ho,bw] at hv;have rc:=cD hH ht c;cases hc:az tm (aS H c)<;>rw [hc] at hv<;>simp only [reduceCtorEq] at hv
  rename_i b;rw [hc] at rc;simp only [ai] at rc;simp only [yc] at hv;subst hv
  cases b with
  | true=>exact ⟨a.eval x,by simp [execOp,ho,rc,asBool],cD hH ht x⟩
  | false=>exact ⟨a.eval y,by simp [execOp,ho,rc,asBool],cD hH ht y⟩
 | load t x=>
  simp only [bl,ho] at hv
  split at hv
  ·rename_i s ag hz ha;simp only [bw] at hv;exact jt (by simp only [execOp,ho]) (aqM hh hz ha (cD hH ht x) hv)
  ·exact (dt hv).elim
 | fieldAddr t x i=>
  simp only [bl,ho] at hv
  split at hv
  ·rename_i fs hu
   split at hv
   ·rename_i f hf
    split at hv
    ·rename_i s hz;simp only [bw] at hv;exact jt (by simp only [execOp,ho]) (aoc hu hf hz (cD hH ht x) hv)
    ·exact (dt hv).elim
   ·exact (dt hv).elim
  ·exact (dt hv).elim
 | field t x i=>
  simp only [bl,ho] at hv
  split at hv
  ·rename_i fs hu
   split at hv
   ·rename_i f hf
    split at hv
    ·rename_i s ag hz ha;simp only [bw] at hv;exact jt (by simp only [execOp,ho]) (aod hu hf hz ha (cD hH ht x) hv)
    ·exact (dt hv).elim
   ·exact (dt hv).elim
  ·exact (dt hv).elim
 | nilCheck x=>
  simp only [bl,ho,bw] at hv;have rx:=cD hH ht x;cases hx:az tm (aS H x)<;>rw [hx] at hv rx<;>simp only [reduceCtorEq,yc] at hv
  ·subst hv;have r':=rx;simp only [ai] at r';obtain ⟨p,_,e⟩:=r';exact ⟨a.eval x,by simp only [execOp,ho,e,Sem.run_pure],rx⟩
  ·subst hv;have r':=rx;simp only [ai] at r';obtain ⟨b,o',e,_⟩:=r';exact ⟨a.eval x,by simp only [execOp,ho,e,Sem.run_pure],rx⟩
  ·subst hv;rename_i f _ _
   cases f with
   | f g=>
    have r':=rx;simp only [ai] at r';obtain ⟨fi,ca,e,_⟩:=r';exact ⟨a.eval x,by simp only [execOp,ho,e,Sem.run_pure],rx⟩
   | y l=>
    have r':=rx;simp only [ai] at r';obtain ⟨p,_,e⟩:=r';exact ⟨a.eval x,by simp only [execOp,ho,e,Sem.run_pure],rx⟩
 | unOp op t x=>
  simp only [bl,ho,bw] at hv;exact jt (by simp only [execOp,ho]) (alW (cD hH ht x) hv)
 | convert s d x=>
  simp only [bl,ho] at hv
  split at hv
  ·rename_i k1 k2 hs hd;simp only [bw] at hv;exact jt (by simp only [execOp,ho]) (X7 hd (.inl ⟨_,hs⟩) (cD hH ht x) hv)
  ·rename_i k1 k2 hs hd;simp only [bw] at hv;exact jt (by simp only [execOp,ho]) (X7 hd (.inr ⟨_,hs⟩) (cD hH ht x) hv)
  ·rename_i k1 k2 hs hd;simp only [bw] at hv;exact jt (by simp only [execOp,ho]) (X8 hd (.inl ⟨_,hs⟩) (cD hH ht x) hv)
  ·rename_i k1 k2 hs hd;simp only [bw] at hv;exact jt (by simp only [execOp,ho]) (X8 hd (.inr ⟨_,hs⟩) (cD hH ht x) hv)
  ·rename_i hs hd;simp only [bw] at hv;exact jt (by simp only [execOp,ho]) (ajF hd hs (cD hH ht x) hv)
  ·exact (dt hv).elim
 | makeFunc fn first cap=>
  cases fn with
  | func f=>
   simp only [bl,ho] at hv
   split at hv
   ·rename_i g hg;simp only [bw,yc] at hv;subst hv;refine ⟨.func (.func f) (first.map a.eval) (cap.map a.eval),by simp [execOp,ho,Instr.makeFunc],?_⟩;simp only [ai];exact ⟨_,_,by rw [hH f g hg],by simpa using BF hH ht first.toList,by simpa using BF hH ht cap.toList⟩
   ·exact (dt hv).elim
  | _=>simp only [bl,ho] at hv;exact (dt hv).elim
 | slice t x lo hi mx=>
  cases mx with
  | some q=>simp only [bl,ho] at hv;exact (dt hv).elim
  | none=>
   simp only [bl,ho] at hv
   split at hv
   ·rename_i hu;simp only [bw] at hv;exact jt (by simp only [execOp,ho];rfl) (ahR hH ht hu (cD hH ht x) hv)
   ·rename_i e hu
    split at hv
    ·rename_i s hz;simp only [bw] at hv;exact jt (by simp only [execOp,ho];rfl) (ajG hH ht hu hz hh (cD hH ht x) hv)
    ·exact (dt hv).elim
   ·split at hv
    ·simp only [bw] at hv;cases hx:az tm (aS H x)<;>rw [hx] at hv<;>simp [fe] at hv
    ·exact (dt hv).elim
   ·exact (dt hv).elim
 | indexAddr t x i=>
  simp only [bl,ho] at hv
  split at hv
  ·rename_i e hu
   split at hv
   ·rename_i s hz;simp only [bw] at hv
    cases hk:dD (az tm (aS H i)) with
    | none=>simp [hk] at hv
    | some j=>
     simp only [hk] at hv;exact jt (by simp only [execOp,ho]) (aoe hu hz (cD hH ht x) (cD hH ht i) hk hv)
   ·exact (dt hv).elim
  ·rename_i n e hu
   split at hv
   ·rename_i s hz;simp only [bw] at hv
    cases hk:dD (az tm (aS H i)) with
    | none=>simp [hk] at hv
    | some j=>
     simp only [hk] at hv;exact jt (by simp only [execOp,ho]) (aof hu hz (cD hH ht x) (cD hH ht i) hk hv)
   ·exact (dt hv).elim
  ·exact (dt hv).elim
 | index t x i=>
  simp only [bl,ho] at hv
  split at hv
  ·rename_i hu;simp only [bw] at hv
   cases hk:dD (az tm (aS H i)) with
   | none=>simp [hk] at hv
   | some j=>
    simp only [hk] at hv;exact jt (by simp only [execOp,ho]) (aoh hu (cD hH ht x) (cD hH ht i) hk hv)
  ·rename_i n e hu
   split at hv
   ·rename_i s ag hz ha;simp only [bw] at hv
    cases hk:dD (az tm (aS H i)) with
    | none=>simp [hk] at hv
    | some j=>
     simp only [hk] at hv;exact jt (by simp only [execOp,ho]) (aog hu hz ha (cD hH ht x) (cD hH ht i) hk hv)
   ·exact (dt hv).elim
  ·exact (dt hv).elim
 | lookup t x i ok=>
  simp only [bl,ho] at hv
  split at hv
  ·rename_i kt e hu
   split at hv
   ·rename_i kk z qO hz;simp only [bw] at hv
    cases hf:rK kk (az tm (aS H i)) with
    | false=>simp [hf] at hv
    | true=>
     simp only [hf,yy] at hv;obtain ⟨d,jD,fB,TM⟩:=WC qO hf;obtain ⟨zv,kO,rfl⟩:=DD (w:=w) hz
     cases hr:z7 hp (az tm (aS H i)) (az tm (aS H x)) with
     | none=>simp [hr] at hv
     | some r=>
      refine jt (by simp only [execOp,ho]) (aoi (ok:=ok) (r:=r) (z:=ek zv) hh hu jD fB TM kO (cD hH ht x) (cD hH ht i) (Lo zv) hr ?_);cases r<;>simpa [hr] using hv
   ·exact (dt hv).elim
  ·exact (dt hv).elim
 | extract x i=>
  simp only [bl,ho,bw] at hv;have rx:=cD hH ht x;cases hx:az tm (aS H x)<;>rw [hx] at hv rx<;>simp only [reduceCtorEq] at hv
  simp only [ai] at rx;obtain ⟨xs,e,hr⟩:=rx;obtain ⟨u,h1,h2⟩:=PO hr hv;refine ⟨u,?_,h2⟩;have AR:xs[i]? =some u:=by simpa using h1
  simp [execOp,ho,e,Instr.extract,AR]
 | build t parts=>
  simp only [bl,ho] at hv
  split at hv
  ·rename_i fs z hu hz
   split at hv
   ·rename_i pl asr;have iX:=run_places (P:=O.P) w fs.toList pl asr
    split at hv
    case h_2=>exact (dt hv).elim
    rename_i ps eP;simp only [bw] at hv
    cases hf:fill tm z ps with
    | none=>simp [hf] at hv
    | some cs=>
     simp only [hf,yc] at hv;subst hv;obtain ⟨zv,kO,ik⟩:=DD (w:=w) hz;have sW:ap O.ah m S w z zv.cells.toList:=by
      have:=Dk (ah:=O.ah) (m:=m) (S:=S) (w:=w) zv
      rw [<-ik] at this;exact this
     obtain ⟨out,h1,h2⟩:=Ls hH ht (place:=fun i=>pl[i]?) parts.toList ps z cs zv.cells eP sW hf;refine ⟨.agg out,?_,by simp only [ai];exact ⟨out,rfl,h2⟩⟩
     have hm:(Array.mapM (fun f=>Functor.map (Prod.mk f.offset) (Go.sizeOf f.type)) fs:Sem (Array (Nat×Nat))).run O.P w= .ok pl.toArray w:=by
      rw [Array.mapM_eq_mapM_toList];simp [iX]
     simp [execOp,ho,Instr.build,kO,run_underlying hu,hm,h1]
   ·exact (dt hv).elim
  ·rename_i n e z hu hz
   split at hv
   ·rename_i s hs
    split at hv
    ·rename_i ps eP;simp only [bw] at hv
     cases hf:fill tm z ps with
     | none=>simp [hf] at hv
     | some cs=>
      simp only [hf,yc] at hv;subst hv;obtain ⟨zv,kO,ik⟩:=DD (w:=w) hz;have sW:ap O.ah m S w z zv.cells.toList:=by
       have:=Dk (ah:=O.ah) (m:=m) (S:=S) (w:=w) zv
       rw [<-ik] at this;exact this
      obtain ⟨out,h1,h2⟩:=Ls hH ht (place:=fun i=>some (i*s,s)) parts.toList ps z cs zv.cells eP sW hf;refine ⟨.agg out,?_,by simp only [ai];exact ⟨out,rfl,h2⟩⟩
      simp [execOp,ho,Instr.build,kO,run_underlying hu,mB hs,h1]
    ·exact (dt hv).elim
   ·exact (dt hv).elim
  ·exact (dt hv).elim
 | alloc t=>simp only [bl,ho] at hv;split at hv<;>simp [bw,bad] at hv
 | box t x=>simp only [bl,ho] at hv;split at hv<;>simp [bw,bad] at hv
 | buildSlice t n parts=>
  simp only [bl,ho] at hv
  split at hv
  ·split at hv
   ·rename_i s z _ _
    cases hc:yB (n*s) 16777216 with
    | false=>rw [hc] at hv;exact (dt hv).elim
    | true=>
     rw [hc] at hv;simp only [yy] at hv
     split at hv
     ·simp [bw] at hv
     ·exact (dt hv).elim
   ·exact (dt hv).elim
  ·exact (dt hv).elim
 | makeMap t r=>
  cases r<;>simp only [bl,ho] at hv
  ·repeat' split at hv
   all_goals simp [bw,bad] at hv
  ·exact (dt hv).elim
 | makeSlice t l c=>
  simp only [bl,ho] at hv
  repeat' split at hv
  all_goals simp [bw,bad] at hv
 | insert t x k y=>
  simp only [bl,ho] at hv
  repeat' split at hv
  all_goals simp [bw,bad] at hv
 | mapUpdate t x k y=>
  simp only [bl,ho] at hv
  repeat' split at hv
  all_goals simp [bw,bad] at hv
 | store t x y=>simp only [bl,ho] at hv;split at hv<;>simp [bw,bad] at hv
 | range t x=>simp only [bl,ho] at hv;split at hv<;>simp [bw,bad] at hv
 | next x b=>cases b<;>simp [bl,ho,bw,bad] at hv
 | _=>simp [bl,ho,bw,bad] at hv
end
end
section
open Go
def fh (m:Mp) (id:Nat) (p:Pl):Mp:=fun i=>if i=id then some p else m i
def dW {m:Mp} {id:Nat} {p:Pl}:fh m id p id=some p:=by simp [fh]
def dV {m:Mp} {id i:Nat} {p:Pl} (h:i≠id):fh m id p i=m i:=by simp [fh,h]
section
variable {O:bq} {m:Mp} {S:Nat->Prop} {w:yg} {hp:Hp} {ct:Nat}
def dn (m m':Mp):Prop:=∀id p,m id=some p->m' id=some p
def dn.refl {m:Mp}:dn m m:=fun _ _ h=>h
def dn.trans {m m' Jp:Mp} (h:dn m m') (k:dn m' Jp):dn m Jp:=fun id p hp=>k id p (h id p hp)
def jJ {i:Nat} (h:m i=none) {p:Pl}:dn m (fh m i p):=by
 intro id q hq;rw [dV]
 ·grind
 ·grind
def zC {tm:Env} {tmps:Array ye} {m':Mp} {S':Nat->Prop} {w':yg} (hm:∀id p,m id=some p->m' id=some p) (hS:∀b,S b->S' b) (hw:fE S w w')
  (h:cf O m S w tm tmps):cf O m' S' w' tm tmps:=fun i=>lf hm hS hw _ _ (h i)
def alloc_old {o:Go.Obj} {b:Nat} (hb:b<w.heap.size):(w.alloc o).heap[b]? =w.heap[b]? :=RowKit.Below.heap_alloc w o b hb
def pI {m':Mp} {S':Nat->Prop} {w':yg} {id:Nat} {o:Obj} (hm:∀id p,m id=some p->m' id=some p) (hS:∀b,S b->S' b) (hw:fE S w w') (hb:∀p,m id=some p->w'.heap[p.b]? =w.heap[p.b]?)
  (hn:∀p,m id=some p->S' p.b->S p.b) (h:fg O m S w id o):fg O m' S' w' id o:=by
 have rowAt:∀(cs:List AV) (b k:Nat),w'.heap[b]? =w.heap[b]? ->bR O.ah m S w cs b k->bR O.ah m' S' w' cs b k:=by
  intro cs
  induction cs with
  | nil=>intro b k _ _;simp only [bR]
  | cons c cs ih=>
   intro b k qP hr;obtain ⟨⟨u,h1,h2⟩,h3⟩:=hr;exact ⟨⟨u,(Kt qP).trans h1,lf hm hS hw _ _ h2⟩,ih b (k+1) qP h3⟩
 cases o with
 | cells rw pu ex sz cs=>
  obtain ⟨p,arr,t,h1,h2,h3,h4,h5,h6,h7,h8,h9,il⟩:=h;exact ⟨p,arr,t,hm _ _ h1,(hb p h1).trans h2,h3,h4,h5,h6,rowAt cs p.b p.o (hb p h1) h7,h8,fun hr hs=>h9 hr (hn p h1 hs),fun hr=>hS _ (il hr)⟩
 | mp rw ks vs=>
  obtain ⟨p,es,clock,h1,h2,h3,h4,h5,h6⟩:=h;exact ⟨p,es,clock,hm _ _ h1,(hb p h1).trans h2,gO hm hS hw _ _ h3,gO hm hS hw _ _ h4,fun hr hs=>h5 hr (hn p h1 hs),fun hr=>hS _ (h6 hr)⟩
 | si s pos=>
  obtain ⟨p,t,h1,h2,h3,h4⟩:=h;exact ⟨p,t,hm _ _ h1,(hb p h1).trans h2,h3,fun hs=>h4 (hn p h1 hs)⟩
 | lp tm ps cK body st pe=>
  obtain ⟨p,l,hi,h1,h2,h3,h4,h5,h6,h7,h8⟩:=h;exact ⟨p,l,hi,hm _ _ h1,(hb p h1).trans h2,fun hs=>h3 (hn p h1 hs),h4,h5,h6,zC hm hS hw h7,h8⟩
def gP {id i:Nat} {o:Obj}:aw ((id,o)::hp) i=if id=i then some o else aw hp i:=by
 simp only [aw]
 simp_all
def GD (hh:aV O m S w hp ct) (g:Go.Obj):fE S w (w.alloc g):=fun b hb=>alloc_old (hh.slt b hb)
def iZ:Obj->Obj->Prop
 | .cells rw pu ex sz cs,o'=>∃eH,o'= .cells eH pu ex sz cs/\(eH=true->rw=true)
 | .mp rw ks vs,o'=>∃eH,o'= .mp eH ks vs/\(eH=true->rw=true)
 | .si s pos,o'=>o'= .si s pos
 | .lp tm ps cK body st pe,o'=>o'= .lp tm ps cK body st pe
def iZ.refl:∀o,iZ o o
 | .cells rw _ _ _ _=>⟨rw,rfl,fun h=>h⟩
 | .mp rw _ _=>⟨rw,rfl,fun h=>h⟩
 | .si _ _=>rfl
 | .lp _ _ _ _ _ _=>rfl
def iZ.trans {a b c:Obj} (h:iZ a b) (k:iZ b c):iZ a c:=by
 cases a with
 | cells rw pu ex sz cs=>
  obtain ⟨r1,rfl,h1⟩:=h;obtain ⟨r2,rfl,h2⟩:=k;exact ⟨r2,rfl,fun h=>h1 (h2 h)⟩
 | mp rw ks vs=>
  obtain ⟨r1,rfl,h1⟩:=h;obtain ⟨r2,rfl,h2⟩:=k;exact ⟨r2,rfl,fun h=>h1 (h2 h)⟩
 | si s pos=>simp only [iZ] at h;subst h;exact k
 | lp tm ps cK body st pe=>simp only [iZ] at h;subst h;exact k
def da (hp an:Hp):Prop:=∀id o,aw hp id=some o->∃o',aw an id=some o'/\iZ o o'
def da.refl {hp:Hp}:da hp hp:=fun _ o h=>⟨o,h,iZ.refl o⟩
def da.trans {a b c:Hp} (h:da a b) (k:da b c):da a c:=fun id o ho=>
 let ⟨o1,h1,l1⟩:=h id o ho
 let ⟨o2,h2,l2⟩:=k id o1 h1
 ⟨o2,h2,l1.trans l2⟩
def iO:Obj->Prop
 | .cells rw _ _ _ _=>rw=false
 | .mp rw _ _=>rw=false
 | _=>False
def Y5 {an:Hp} {a7:Nat} (hh:aV O m S w hp ct) (hl:da hp an) (hd:∀id o p,aw an id=some o->m id=some p->∃o',aw hp id=some o') (gL:ct<=a7) (ass:∀id o,aw an id=some o->id<a7):
  ∃S',aV O m S' w an a7/\(∀b,S b->S' b)/\∀b,S' b->S b\/dR m hp b:=by
 refine ⟨fun b=>S b\/∃id p o,m id=some p/\p.b=b/\aw an id=some o/\iO o,?_,fun b h=> .inl h,?_⟩
 ·refine ⟨?_,fun id p h=>Nat.lt_of_lt_of_le (hh.lt id p h) gL,?_,?_,hh.blt,hh.low,hh.kH,hh.fF,ass⟩
  ·intro id o' p j9 hm;obtain ⟨o,ho⟩:=hd id o' p j9 hm;obtain ⟨o'',h1,h2⟩:=hl id o ho;rw [j9] at h1;injection h1 with h1
   subst h1;have h3:=hh.obj id o p ho hm;have hS:∀b,S b->(S b\/∃id p o,m id=some p/\p.b=b/\aw an id=some o/\iO o):=fun b h=> .inl h
   have mZ:∀q,m id=some q->(∃id p o,m id=some p/\p.b=q.b/\aw an id=some o/\iO o)->iO o':=by
    rintro q hq ⟨j,pj,oj,TN,hj2,hj3,hj4⟩;obtain ⟨Jr,hj5⟩:=hd j oj pj hj3 TN
    have:=hh.inj id j o Jr q pj ho hj5 hq TN hj2.symm
    grind
   have aR:fE S w w:=fun _ _=>rfl
   cases o with
   | cells rw pu ex sz cs=>
    obtain ⟨eH,rfl,nc⟩:=h2;obtain ⟨q,arr,t,h1,h2,h3,h4,h5,h6,h7,h8,h9,il⟩:=h3;refine ⟨q,arr,t,h1,h2,h3,h4,h5,h6,?_,h8,?_,?_⟩
    ·clear h4 h6 h8;revert h7;generalize q.o=k
     induction cs generalizing k with
     | nil=>intro _;simp only [bR]
     | cons c cs ih=>
      intro hr;simp only [bR] at hr ⊢;obtain ⟨⟨u,g1,g2⟩,g3⟩:=hr
      exact ⟨⟨u,g1,lf (fun _ _ h=>h) hS aR _ _ g2⟩,by
       have CF:∀(cs:List AV) (b k:Nat),bR O.ah m S w cs b k->bR O.ah m (fun b=>S b\/∃id p o,m id=some p/\p.b=b/\aw an id=some o/\iO o) w cs b k:=by
        intro cs
        induction cs with
        | nil=>intro b k _;simp only [bR]
        | cons c cs ih=>
         intro b k hr;simp only [bR] at hr ⊢;obtain ⟨⟨u,g1,g2⟩,g3⟩:=hr;exact ⟨⟨u,g1,lf (fun _ _ h=>h) hS aR _ _ g2⟩,ih b (k+1) g3⟩
       exact CF _ _ _ g3⟩
    ·rintro hr (hs | hs)
     ·grind
     ·have:=mZ q h1 hs
      simp only [iO] at this
      grind
    ·intro hr;exact .inr ⟨id,q,_,h1,rfl,j9,hr⟩
   | mp rw ks vs=>
    obtain ⟨eH,rfl,nc⟩:=h2;obtain ⟨q,es,clock,h1,h2,h3,h4,h5,h6⟩:=h3;refine ⟨q,es,clock,h1,h2,gO (fun _ _ h=>h) hS aR _ _ h3,gO (fun _ _ h=>h) hS aR _ _ h4,?_,?_⟩
    ·rintro hr (hs | hs)
     ·grind
     ·have:=mZ q h1 hs
      simp only [iO] at this
      grind
    ·intro hr;exact .inr ⟨id,q,_,h1,rfl,j9,hr⟩
   | si s pos=>
    simp only [iZ] at h2;subst h2;refine pI (fun _ _ h=>h) hS aR (fun _ _=>rfl) (fun q hq hs=>?_) h3;rcases hs with hs | hs
    ·grind
    ·exact (mZ q hq hs).elim
   | lp tm ps cK body st pe=>
    simp only [iZ] at h2;subst h2;refine pI (fun _ _ h=>h) hS aR (fun _ _=>rfl) (fun q hq hs=>?_) h3;rcases hs with hs | hs
    ·grind
    ·exact (mZ q hq hs).elim
  ·intro i j oi oj pi pj hi hj bJ fL e;obtain ⟨Js,bU⟩:=hd i oi pi hi bJ;obtain ⟨Jr,EV⟩:=hd j oj pj hj fL;exact hh.inj i j Js Jr pi pj bU EV bJ fL e
  ·rintro b (hb | ⟨id,p,o,h1,rfl,_,_⟩)
   ·exact hh.slt b hb
   ·exact hh.blt id p h1
 ·rintro b (hb | ⟨id,p,o,h1,rfl,h3,_⟩)
  ·exact .inl hb
  ·obtain ⟨o',j9⟩:=hd id o p h3 h1;exact .inr ⟨id,o',p,j9,h1,rfl⟩
def Ya {i:Nat} (hh:aV O m S w hp ct) (hi:m i=none) (EW:i<ct) {g:Go.Obj} {p:Pl} (hb:p.b=w.heap.size)
  (hf:∀o,aw hp i=some o->(fg O (fh m i p) S (w.alloc g) i o/\¬iO o)\/
   (iO o/\fg O (fh m i p) (fun b=>S b\/b=w.heap.size) (w.alloc g) i o)):
  ∃S',aV O (fh m i p) S' (w.alloc g) hp ct/\(∀b,S b->S' b)/\∀b,S' b->S b\/b=w.heap.size:=by
 have eF:(w.alloc g).heap.size=w.heap.size+1:=by simp
 have bi:O.w0.heap.size<=w.heap.size:=hh.fF;have gen:∀S':Nat->Prop,(∀b,S b->S' b)->(∀b,S' b->S b\/b=w.heap.size)->(∀o,aw hp i=some o->fg O (fh m i p) S' (w.alloc g) i o)->aV O (fh m i p) S' (w.alloc g) hp ct:=by
  intro S' h1 h2 h3;have Jt:∀id q,m id=some q->¬q.b=w.heap.size:=fun id q hq=>by have:=hh.blt id q hq;omega
  refine ⟨?_,?_,?_,?_,?_,?_,?_,?_,hh.a6⟩
  ·intro id o q ho hm;by_cases hc:id=i
   ·grind
   ·rw [dV hc] at hm;refine pI (jJ hi) h1 (GD hh g) (fun q' bV=>alloc_old (hh.blt id q' bV)) (fun q' bV hs=>?_) (hh.obj id o q ho hm)
    grind
  ·intro id q hm;by_cases hc:id=i
   ·grind
   ·rw [dV hc] at hm;exact hh.lt id q hm
  ·intro a b oa ob pa pb ha cO CH ss e;by_cases ca:a=i
   ·by_cases cb:b=i
    ·grind
    ·subst ca;rw [dW] at CH;rw [dV cb] at ss
     grind
   ·rw [dV ca] at CH;by_cases cb:b=i
    ·subst cb;rw [dW] at ss
     grind
    ·rw [dV cb] at ss;exact hh.inj a b oa ob pa pb ha cO CH ss e
  ·intro b hs;rcases h2 b hs with h | h
   ·have:=hh.slt b h;omega
   ·omega
  ·intro id q hm;by_cases hc:id=i
   ·subst hc;rw [dW] at hm
    grind
   ·rw [dV hc] at hm
    have:=hh.blt id q hm
    omega
  ·intro id q hm;by_cases hc:id=i
   ·subst hc;rw [dW] at hm
    grind
   ·rw [dV hc] at hm;exact hh.low id q hm
  ·intro b qP;exact (alloc_old (by omega)).trans (hh.kH b qP)
  ·omega
 cases ho:aw hp i with
 | none=>exact ⟨S,gen S (fun _ h=>h) (fun _ h=> .inl h) (fun o h=>by rw [ho] at h;cases h),fun _ h=>h,fun _ h=> .inl h⟩
 | some o=>
  rcases hf o ho with ⟨h1,_⟩ | ⟨_,h1⟩
  ·exact ⟨S,gen S (fun _ h=>h) (fun _ h=> .inl h) (fun o' h=>by rw [ho] at h;injection h with h;subst h;exact h1),fun _ h=>h,fun _ h=> .inl h⟩
  ·exact ⟨_,gen (fun b=>S b\/b=w.heap.size) (fun _ h=> .inl h) (fun _ h=>h) (fun o' h=>by rw [ho] at h;injection h with h;subst h;exact h1),fun _ h=> .inl h,fun _ h=>h⟩
def Wg {id:Nat} {o o':Obj} {p:Pl} (hl:iZ o o') (hm:m id=some p) (h:fg O m S w id o) (hn:¬iO o):
  (fg O m S w id o'/\¬iO o')\/(iO o'/\fg O m (fun b=>S b\/b=p.b) w id o'):=by
 have hS:∀b,S b->(S b\/b=p.b):=fun _ h=> .inl h
 have aR:fE S w w:=fun _ _=>rfl
 cases o with
 | cells rw pu ex sz cs=>
  obtain ⟨eH,rfl,nc⟩:=hl
  cases eH with
  | true=>
   grind
  | false=>
   refine .inr ⟨rfl,?_⟩;obtain ⟨q,arr,t,h1,h2,h3,h4,h5,h6,h7,h8,h9,il⟩:=h;rw [hm] at h1;injection h1 with h1
   subst h1;have CF:∀(cs:List AV) (b k:Nat),bR O.ah m S w cs b k->bR O.ah m (fun b=>S b\/b=p.b) w cs b k:=by
    intro cs
    induction cs with
    | nil=>intro b k _;simp only [bR]
    | cons c cs ih=>
     intro b k hr;obtain ⟨⟨u,g1,g2⟩,g3⟩:=hr;exact ⟨⟨u,g1,lf (fun _ _ h=>h) hS aR _ _ g2⟩,ih b (k+1) g3⟩
   exact ⟨p,arr,t,hm,h2,h3,h4,h5,h6,CF _ _ _ h7,h8,by simp,fun _=> .inr rfl⟩
 | mp rw ks vs=>
  obtain ⟨eH,rfl,nc⟩:=hl
  cases eH with
  | true=>
   grind
  | false=>
   refine .inr ⟨rfl,?_⟩;obtain ⟨q,es,clock,h1,h2,h3,h4,h5,h6⟩:=h;rw [hm] at h1;injection h1 with h1
   subst h1;exact ⟨p,es,clock,hm,h2,gO (fun _ _ h=>h) hS aR _ _ h3,gO (fun _ _ h=>h) hS aR _ _ h4,by simp,fun _=> .inr rfl⟩
 | si s pos=>simp only [iZ] at hl;subst hl;exact .inl ⟨h,hn⟩
 | lp tm ps cK body st pe=>simp only [iZ] at hl;subst hl;exact .inl ⟨h,hn⟩
end
end
section
open Go
section
variable {O:bq} {H:Hint} {m:Mp} {S:Nat->Prop} {w:yg} {tm:Env} {a:Act} {hp:Hp} {ct cq:Nat}
def Ps {ah:Nat->Nat} {b:Nat} {arr:Array ye} {t:yx} {fr:Nat×Nat} (hb:w.heap[b]? =some (.cells arr t fr)):∀(cs:List AV) (us:List ye) (o:Nat),
  ap ah m S w cs us->(∀(j:Nat) (u:ye),us[j]? =some u->arr[o+j]? =some u)->bR ah m S w cs b o
 | [],us,o,_,_=>by simp only [bR]
 | c::cs,us,o,h,hu=>by
  simp only [ap] at h;obtain ⟨u,r,rfl,h2,h3⟩:=h;simp only [bR];refine ⟨⟨u,?_,h2⟩,Ps hb cs r (o+1) h3 (fun j v hv=>?_)⟩
  ·have:=hu 0 u (by simp)
   simpa [World.cell?,hb] using this
  ·have:=hu (j+1) v (by simpa using hv)
   rw [show o+1+j=o+(j+1) by omega];exact this
def alZ (hh:aV O m S w hp cq) {i:Nat} {arr:Array ye} {t:yx} {cs:List AV} {us:List ye} {pu ex:Bool} {sz:Nat} (hr:ap O.ah m S w cs us)
  (hu:∀(j:Nat) (u:ye),us[j]? =some u->arr[j]? =some u) (hl:cs.length<=arr.size) (hex:ex=true->cs.length=arr.size) (ij:pu=true->aK cs=true)
  (m':Mp) (hm:dn m m') (hi:m' i=some ⟨w.heap.size,0,arr.size,sz⟩):fg O m' S (w.alloc (.cells arr t)) i (.cells true pu ex sz cs):=by
 refine ⟨⟨w.heap.size,0,arr.size,sz⟩,arr,t,hi,heap_alloc_new w _,rfl,hl,by simp,hex,?_,ij,?_,by simp⟩
 ·exact Ps (heap_alloc_new w _) cs us 0 (gO hm (fun _ h=>h) (GD hh _) _ _ hr) (by simpa using hu)
 ·intro _ hS
  have:=hh.slt _ hS
  simp at this
def B5 (O:bq) (m:Mp) (S:Nat->Prop) (w:yg) (a:Act) (ct:Nat) (o:y5) (v:AV) (b:Obj):Prop:=
 ∃u g p,(execOp a.eval o).run O.P w= .ok (.value u) (w.alloc g)/\p.b=w.heap.size/\¬iO b/\
  ∀m',dn m m'->m' ct=some p->fg O m' S (w.alloc g) ct b/\ai O.ah m' S (w.alloc g) v u
def Pt {o:y5} {arr:Array ye} {t:yx} {cs:List AV} {us:List ye} {pu ex:Bool} {sz:Nat} {v:AV} {u:ye} (hh:aV O m S w hp cq)
  (he:(execOp a.eval o).run O.P w= .ok (.value u) (w.alloc (.cells arr t))) (hr:ap O.ah m S w cs us)
  (hu:∀(j:Nat) (u:ye),us[j]? =some u->arr[j]? =some u) (hl:cs.length<=arr.size) (hex:ex=true->cs.length=arr.size) (ij:pu=true->aK cs=true)
  (hv:∀m':Mp,m' ct=some ⟨w.heap.size,0,arr.size,sz⟩->ai O.ah m' S (w.alloc (.cells arr t)) v u):B5 O m S w a ct o v (.cells true pu ex sz cs):=
 ⟨u,_,⟨w.heap.size,0,arr.size,sz⟩,he,rfl,by simp [iO],fun m' hm hi=>⟨alZ hh hr hu hl hex ij m' hm hi,hv m' hi⟩⟩
def Yb {o:y5} {t:yx} {x:ye} {vx v:AV} {b:Obj} {sz:Nat} (hh:aV O m S w hp cq) (he:(execOp a.eval o).run O.P w= .ok (.value (.pointer (some ⟨w.heap.size,0,none⟩))) (w.alloc (.cells x.cells t))) (hx:ap O.ah m S w (cellsOf vx) x.cells.toList)
  (hv:(bif yt (cellsOf vx).length sz&&bL (cellsOf vx) then some (AV.ptr ct 0,Obj.cells true (aK (cellsOf vx)) true sz (cellsOf vx)) else none)=some (v,b)):B5 O m S w a ct o v b:=by
 cases hc:(yt (cellsOf vx).length sz&&bL (cellsOf vx)) with
 | false=>rw [hc] at hv;cases hv
 | true=>
  rw [hc] at hv;obtain ⟨rfl,rfl⟩:=hv;have hlen:=iw _ _ hx;refine Pt hh he hx (fun j u hj=>by simpa using hj) (by rw [<-hlen];simp) (fun _=>by rw [<-hlen];simp) (fun h=>h) (fun m' hi=>?_)
  simp only [ai];exact ⟨_,hi,by simp⟩
def ajJ {o:y5} {t:yx} {r:Option xu} (hh:aV O m S w hp cq) (ho:o.op= .makeMap t r) (hr:r=none):B5 O m S w a ct o (.map ct) (.mp true [] []):=by
 subst hr;refine ⟨.map (some w.heap.size),.map #[] 0,⟨w.heap.size,0,0,0⟩,by simp [execOp,ho,Instr.makeMap],rfl,by simp [iO],fun m' _ hi=>⟨?_,?_⟩⟩
 ·refine ⟨_,#[],0,hi,heap_alloc_new w _,by simp [ap],by simp [ap],?_,by simp⟩;intro _ hS
  have:=hh.slt _ hS
  simp at this
 ·simp only [ai];exact ⟨_,hi,rfl⟩
def ahU {o:y5} {t:yx} {x:xu} {s:List Nat} (hh:aV O m S w hp cq) (ho:o.op= .range t x) (hu:O.P.underlying t=some .string) (hx:ai O.ah m S w (.str s) (a.eval x)):
  B5 O m S w a ct o (.it ct) (.si s 0):=by
 obtain ⟨b,e,rfl⟩:=hx;refine ⟨.pointer (some ⟨w.heap.size,0,none⟩),.stringIter b 0,⟨w.heap.size,0,0,0⟩,by simp [execOp,ho,Instr.range,run_underlying hu,e],rfl,by simp [iO],fun m' _ hi=>⟨?_,?_⟩⟩
 ·refine ⟨_,b,hi,heap_alloc_new w _,rfl,?_⟩;intro hS
  have:=hh.slt _ hS
  simp at this
 ·simp only [ai];exact ⟨_,hi,rfl⟩
end
def ahV (zero:Array ye):(wO zero.size).map (fun j=>zero[j]!)=zero.toList:=by
 apply List.ext_getElem
 ·simp
 ·grind
def WD (zero:Array ye):∀n:Nat,(wO (n*zero.size)).map (fun i=>zero[i%zero.size]!)=(yH n zero.toList).flatten
 | 0=>by simp
 | n+1=>by
  rw [we,ybp,List.range_add,List.map_append,WD zero n,List.replicate_succ',tE]
  congr 1
  simp only [List.map_map,wU,List.flatten_nil,List.append_nil];rw [<-ahV zero];apply List.map_congr_left;intro j hj;simp at hj;simp [Function.comp,xz n,Nat.mod_eq_of_lt hj]
def PQ {ah:Nat->Nat} {m:Mp} {S:Nat->Prop} {w:yg} {cs:List AV} {us:List ye} (h:ap ah m S w cs us):∀n,ap ah m S w (yH n cs).flatten (yH n us).flatten
 | 0=>by simp [ap]
 | n+1=>by rw [wP,wP,wU,wU];exact kW h (PQ h n)
section
variable {O:bq} {H:Hint} {m:Mp} {S:Nat->Prop} {w:yg} {tm:Env} {a:Act} {hp:Hp} {ct cq:Nat}
def Xp (zero:Array ye) (n:Nat):(Array.map (fun i=>zero[i%zero.size]!) (ub (n*zero.size))).toList=(yH n zero.toList).flatten:=by
 rw [<-WD zero n]
 simp
def Yc (tm:Env):∀(ps:List (Nat×Nat×X)) (zero cs:List AV),fill tm zero ps=some cs->cs.length=zero.length
 | [],zero,cs,h=>by simp only [fill,yc] at h;rw [h]
 | (o,sz,x)::r,zero,cs,h=>by
  simp only [fill] at h
  cases hc:(yt (cellsOf (az tm x)).length sz&&yB (o+sz) zero.length&&bL (cellsOf (az tm x))) with
  | false=>rw [hc] at h;cases h
  | true=>
   rw [hc] at h;simp only [yf] at hc;have h1:=yk hc.1.1;have h2:=yr hc.1.2;rw [Yc tm r _ _ h];simp only [over,List.length_append,yQ,xY];omega
def K1 {α:Type} (l:List α):∀n,(yH n l).flatten.length=n*l.length
 | 0=>by simp
 | n+1=>by simp [wP,K1 l n,we,Nat.add_comm]
def ahW {o:y5} {t e:yx} {n s:Nat} {z:AV} {parts:Array (Nat×xu)} {ps:List (Nat×Nat×X)} {v:AV} {b:Obj} (hH:fp O H) (ht:cf O m S w tm a.tmps) (hh:aV O m S w hp cq)
  (ho:o.op= .buildSlice t n parts) (hu:O.P.underlying t=some (.slice e)) (hs:cL O.P e=some s) (hz:mg O.P e=some z) (hn:n*s<=16777216)
  (eP:partsOf H (fun i=>some (i*s,s)) parts.toList=some ps)
  (hv:cQ tm hp ct (.bH n s (yH n (cellsOf z)).flatten ps)=some (v,b)):B5 O m S w a ct o v b:=by
 simp only [cQ] at hv
 cases hf:fill tm (yH n (cellsOf z)).flatten ps with
 | none=>simp [hf] at hv
 | some cs=>
  simp only [hf] at hv
  cases hc:yt cs.length (n*s) with
  | false=>rw [hc] at hv;cases hv
  | true=>
   rw [hc] at hv;simp only [yy,yc,ym] at hv;obtain ⟨rfl,rfl⟩:=hv;have hlen:=yk hc;obtain ⟨zv,kO,rfl⟩:=DD (w:=w) hz;have sW:ap O.ah m S w (cellsOf (ek zv)) zv.cells.toList:=Dk zv;have sX:=iw _ _ sW;have qQ:=Yc tm ps _ _ hf;rw [K1] at qQ;have EX:n*s=n*zv.cells.size:=by
    rw [<-hlen,qQ,<-sX];simp
   have key:∃zr:Array ye,(n*s=0->zr=#[])/\(n*s≠0->zr=zv.cells)/\ap O.ah m S w (yH n (cellsOf (ek zv))).flatten ((ub (n*s)).map (fun x=>zr[x%zr.size]!)).toList:=by
    by_cases h0:n*s=0
    ·refine ⟨#[],fun _=>rfl,fun h=>(h h0).elim,?_⟩
     have:(yH n (cellsOf (ek zv))).flatten=[]:=by
      apply List.eq_nil_of_length_eq_zero;rw [K1,<-sX];simp only [Array.length_toList];omega
     rw [this];simp [ap,h0]
    ·refine ⟨zv.cells,fun h=>(h0 h).elim,fun _=>rfl,?_⟩;rw [EX,Xp];exact PQ sW n
   obtain ⟨zr,TO,mv,sY⟩:=key;obtain ⟨out,h1,h2⟩:=Ls hH ht (place:=fun i=>some (i*s,s)) parts.toList ps _ cs _ eP sY hf;have mY:=iw _ _ h2
   refine Pt (arr:=out) (t:=e) (us:=out.toList) hh ?_ h2 (fun j u hj=>by simpa using hj) (by rw [<-mY];simp) (fun _=>by rw [<-mY];simp) (fun h=>h) (u:= .slice (some ⟨w.heap.size,0,none⟩) n n) ?_
   ·have jE:¬(n*s>2^24):=by omega
    by_cases h0:n*s=0
    ·have:=TO h0
     subst this;simp only [h0] at h1;simp [execOp,ho,Instr.buildSlice,run_underlying hu,mB hs,h0,newRow] at h1 ⊢;simp [h1]
    ·have:=mv h0
     subst this;simp [execOp,ho,Instr.buildSlice,run_underlying hu,mB hs,h0,jE,kO,newRow] at h1 ⊢;simp [h1]
   ·intro m' hi;simp only [ai];refine ⟨_,n,hi,by simp,Nat.le_refl _,?_⟩;simp only [Nat.zero_add];rw [<-hlen,<-mY];simp
def Dl:∀{a b:List AV},aK a=true->aK b=true->aK (a++b)=true
 | [],_,_,h=>h
 | c::r,b,h,k=>by
  simp only [aK,yf] at h;simp only [xn,aK,yf];exact ⟨h.1,Dl h.2 k⟩
def Xq {z:List AV} (h:aK z=true):∀n,aK (yH n z).flatten=true
 | 0=>by simp [aK]
 | n+1=>by rw [wP,wU];exact Dl h (Xq h n)
def ajK {o:y5} {t e:yx} {s cG:Nat} {z:AV} {l c:xu} {v:AV} {b:Obj} (hH:fp O H) (ht:cf O m S w tm a.tmps) (hh:aV O m S w hp cq)
  (ho:o.op= .makeSlice t l c) (hu:O.P.underlying t=some (.slice e)) (hs:cL O.P e=some s) (hb:AO O.P e=some cG) (hz:mg O.P e=some z)
  (hv:cQ tm hp ct (.fZ s cG (cellsOf z) (aS H l) (aS H c))=some (v,b)):B5 O m S w a ct o v b:=by
 simp only [cQ] at hv
 cases hl:dD (az tm (aS H l)) with
 | none=>simp [hl] at hv
 | some ln=>
  cases hc:dD (az tm (aS H c)) with
  | none=>simp [hl,hc] at hv
  | some cn=>
   simp only [hl,hc] at hv
   cases hk:(yB ln cn&&(yB cn room&&(yB (cn*cG) room&&(yt (cellsOf z).length s&&bL (cellsOf z))))) with
   | false=>rw [hk] at hv;cases hv
   | true=>
    rw [hk] at hv;simp only [yy,yc,ym] at hv;obtain ⟨rfl,rfl⟩:=hv;simp only [yf] at hk;have h1:=yr hk.1;have h2:=yr hk.2.1;have h3:=yr hk.2.2.1;have h4:=yk hk.2.2.2.1;simp only [room] at h2 h3;obtain ⟨kl,el⟩:=rM (cD hH ht l) hl;obtain ⟨kc,ec⟩:=rM (cD hH ht c) hc;obtain ⟨zv,kO,rfl⟩:=DD (w:=w) hz;have sW:ap O.ah m S w (cellsOf (ek zv)) zv.cells.toList:=Dk zv;have sX:=iw _ _ sW;have Ju:zv.cells.size=s:=by rw [<-h4,<-sX];simp
    have wrapN:∀k:Nat,k<=1099511627776->IntKind.i64.wrap (k:Int)=k:=fun k hk=>IntWalk.i64_in _ (by omega)
    obtain ⟨ti,sZ,eF,TP⟩:∃ti,O.P.info? e=some ti/\ti.size=s/\ti.bytes=cG:=by
     unfold cL at hs;unfold AO at hb
     cases hi:O.P.info? e with
     | none=>simp [hi] at hs
     | some ti=>simp only [hi,yc] at hs hb;exact ⟨ti,rfl,hs,hb⟩
    have Ca:((ub (cn*s)).map (zv.cells[·%zv.cells.size]!)).toList=(yH ln zv.cells.toList).flatten++(yH (cn-ln) zv.cells.toList).flatten:=by
     rw [<-Ju,Xp,<-tE,List.replicate_append_replicate]
     grind
    have ki:(yH ln (cellsOf (ek zv))).flatten.length=ln*s:=by rw [K1,h4]
    have hmul:ln*s<=cn*s:=Nat.mul_le_mul_right _ h1
    refine Pt (arr:=(ub (cn*s)).map (zv.cells[·%zv.cells.size]!)) (t:=e) (us:=(yH ln zv.cells.toList).flatten) hh (u:= .slice (some ⟨w.heap.size,0,none⟩) ln cn) ?_
     (PQ sW ln) ?_ ?_ ?_ (fun h=>?_) ?_
    ·have ayA:cG*cn<=1099511627776:=by rw [xz];exact h3
     have qR:((cG*cn:Nat):Int)<=1099511627776:=by omega
     rw [Int.natCast_mul] at qR;have hlc:(ln:Int)<=(cn:Int):=by omega
     have g1:¬(281474976710656<(cG:Int)*(cn:Int)):=by omega
     have g2:¬(((ln:Int)<0)):=by omega
     have g3:¬(((cn:Int)<0)):=by omega
     have g4:¬((ln:Int)>(cn:Int)):=by omega
     by_cases h0:cn*s=0
     ·simp [execOp,ho,Instr.makeSlice,run_underlying hu,el,ec,asInt,asIntOf,typeInfo,sZ,TP,wrapN ln (by omega),wrapN cn h2,g1,g2,g3,g4,mB hs,h0,newRow,askRoom,roomBytes]
      grind
     ·simp [execOp,ho,Instr.makeSlice,run_underlying hu,el,ec,asInt,asIntOf,typeInfo,sZ,TP,wrapN ln (by omega),wrapN cn h2,g1,g2,g3,g4,mB hs,h0,newRow,askRoom,roomBytes,kO]
    ·intro j u hj
     have:((ub (cn*s)).map (zv.cells[·%zv.cells.size]!)).toList[j]? =some u:=by
      grind
     grind
    ·grind
    ·simp_all
    ·exact Xq h ln
    ·intro m' hi;simp only [ai];refine ⟨_,cn,hi,by simp,h1,?_⟩
     simp
def al0 {o:y5} {k:Nat} {v:AV} {b:Obj} (hH:fp O H) (ht:cf O m S w tm a.tmps) (hh:aV O m S w hp cq)
  (hv:cQ tm hp ct (bl O.P H k o)=some (v,b)):B5 O m S w a ct o v b:=by
 cases ho:o.op with
 | call c=>
  obtain ⟨callee,args,ts⟩:=c;simp only [bl,ho] at hv
  repeat' split at hv
  all_goals first
   | (simp [cQ,bad] at hv;done)
   | (revert hv;generalize yt _ _=bb;intro hv;cases bb<;>simp [cQ,bad] at hv)
 | alloc t=>
  simp only [bl,ho] at hv
  split at hv
  ·rename_i s z hs hz;obtain ⟨zv,kO,rfl⟩:=DD (w:=w) hz
   exact Yb (x:=zv) (t:=t) hh (by simp [execOp,ho,Instr.alloc,kO,newVar,newRow]) (Dk zv) (by simpa only [cQ,az] using hv)
  ·simp [cQ,bad] at hv
 | box t x=>
  simp only [bl,ho] at hv
  split at hv
  ·rename_i s hs;simp only [cQ] at hv
   cases hc:(yt (cellsOf (az tm (aS H x))).length s&&bL (cellsOf (az tm (aS H x)))) with
   | false=>rw [hc] at hv;cases hv
   | true=>
    have h1:=hc;simp only [yf] at h1
    exact Yb (x:=a.eval x) (t:=t) hh (by simp [execOp,ho,Instr.box,newVar,newRow]) (Pr (cD hH ht x) h1.2) hv
  ·simp [cQ,bad] at hv
 | buildSlice t n parts=>
  simp only [bl,ho] at hv
  split at hv
  ·rename_i e hu
   split at hv
   ·rename_i s z hs hz
    cases hc:yB (n*s) 16777216 with
    | false=>rw [hc] at hv;simp [cQ,bad] at hv
    | true=>
     rw [hc] at hv;simp only [yy] at hv
     split at hv
     ·rename_i ps eP;exact ahW hH ht hh ho hu hs hz (yr hc) eP hv
     ·simp [cQ,bad] at hv
   ·simp [cQ,bad] at hv
  ·simp [cQ,bad] at hv
 | makeSlice t l c=>
  simp only [bl,ho] at hv
  split at hv
  ·rename_i e hu
   split at hv
   ·rename_i s cG z hs hb hz
    exact ajK hH ht hh ho hu hs hb hz hv
   ·simp [cQ,bad] at hv
  ·simp [cQ,bad] at hv
 | makeMap t r=>
  cases r with
  | some x=>simp [bl,ho,cQ,bad] at hv
  | none=>
   simp only [bl,ho] at hv
   repeat' split at hv
   all_goals first
    | (simp [cQ,bad] at hv;done)
    | (
      simp only [cQ,yc,ym] at hv;obtain ⟨rfl,rfl⟩:=hv
      exact ajJ hh ho rfl)
 | range t x=>
  simp only [bl,ho] at hv
  split at hv
  ·rename_i hu;simp only [cQ] at hv;have rx:=cD hH ht x;cases hx:az tm (aS H x)<;>rw [hx] at hv rx<;>simp only [reduceCtorEq] at hv
   simp only [yc,ym] at hv;obtain ⟨rfl,rfl⟩:=hv;exact ahU hh ho hu rx
  ·simp [cQ,bad] at hv
 | next x b=>cases b<;>simp [bl,ho,cQ,bad] at hv
 | binOp op t x y ty=>
  cases op<;>simp only [bl,ho,pQ,rL] at hv
  case eql=>
        repeat' split at hv
        all_goals first
         | (simp [cQ,bad] at hv;done)
         | (cases hb:(O.P.stoodInHeld t||O.P.eqGuardType O.P.depth t)<;>rw [hb] at hv<;>simp [cQ,bad] at hv)
  case neq=>
        repeat' split at hv
        all_goals first
         | (simp [cQ,bad] at hv;done)
         | (cases hb:(O.P.stoodInHeld t||O.P.eqGuardType O.P.depth t)<;>rw [hb] at hv<;>simp [cQ,bad] at hv)
  all_goals simp [cQ] at hv
 | _=>
  simp only [bl,ho] at hv
  (repeat' split at hv)
  all_goals first
   | contradiction
   | (simp [cQ,bad] at hv;done)
end
end
section
open Go
def pJ {hp:Hp} {id i:Nat} {o:Obj}:aw (bh hp id o) i=if id=i then (if (aw hp id).isSome then some o else none) else aw hp i:=by
 induction hp with
 | nil=>simp [bh,aw]
 | cons x r ih=>
  obtain ⟨j,q⟩:=x;simp only [bh];by_cases hj:j=id
  ·subst hj;simp only [vm,yy,aw];by_cases hi:j=i
   ·simp_all
   ·have:yt j i=false:=by
     cases hq:yt j i with
     | false=>rfl
     | true=>exact absurd (yk hq) hi
    grind
  ·have hb:yt j id=false:=by
    cases hq:yt j id with
    | false=>rfl
    | true=>exact absurd (yk hq) hj
   simp only [hb,yM];rw [show aw ((j,q)::bh r id o) i=bif yt j i then some q else aw (bh r id o) i from rfl,ih];by_cases hi:j=i
   ·subst hi
    have:¬id=j:=fun h=>hj h.symm
    simp [vm,this,aw]
   ·have qR:yt j i=false:=by
     cases hq:yt j i with
     | false=>rfl
     | true=>exact absurd (yk hq) hi
    simp [qR,aw,hb]
def ju (hp an:Hp):Prop:=∀id,(aw an id).isSome=(aw hp id).isSome
def ju.refl {hp:Hp}:ju hp hp:=fun _=>rfl
def ju.trans {a b c:Hp} (h:ju a b) (k:ju b c):ju a c:=fun id=>(k id).trans (h id)
def Qf {hp:Hp} {id:Nat} {o o':Obj} (h:aw hp id=some o) (hl:iZ o o'):da hp (bh hp id o')/\ju hp (bh hp id o'):=by
 constructor
 ·intro i q hq;rw [pJ];by_cases hi:id=i
  ·grind
  ·exact ⟨q,by simp [hi,hq],iZ.refl q⟩
 ·intro i;rw [pJ]
  grind
def Xr {hp H:Hp} {id:Nat} {pu ex:Bool} {sz:Nat} {cs:List AV} (hl:da hp H) (h:aw hp id=some (.cells false pu ex sz cs)):aw H id=some (.cells false pu ex sz cs):=by
 obtain ⟨o',h1,eH,rfl,h2⟩:=hl id _ h
 cases eH with
 | false=>exact h1
 | true=>exact absurd (h2 rfl) (by simp)
section
variable {O:bq}
def aqO (O:bq) (m:Mp) (S:Nat->Prop) (w:yg) (p:Pl) (ex:Bool) (sz:Nat) (cs:List AV):Prop:=
 p.z=sz/\cs.length<=p.e/\(ex=true->cs.length=p.e)/\S p.b/\aK cs=true/\bR O.ah m S w cs p.b p.o
def RU (O:bq) (an:Hp) (v v':AV):Prop:=∀H m S w ct,da an H->aV O m S w H ct->(∀u,ai O.ah m S w v u->ai O.ah m S w v' u)/\aX v'=true
def ac8 (O:bq) (an:Hp) (vs dQ:List AV):Prop:=∀H m S w ct,da an H->aV O m S w H ct->(∀us,ap O.ah m S w vs us->ap O.ah m S w dQ us)/\aK dQ=true
def ast (O:bq) (an:Hp) (id:Nat) (ex:Bool) (sz:Nat) (cs:List AV):Prop:=∀H m S w ct,da an H->aV O m S w H ct->∀p,m id=some p->aqO O m S w p ex sz cs
def Dz {ah:Nat->Nat} {m:Mp} {S:Nat->Prop} {w:yg} {b:Nat}:∀(cs:List AV) (us:List ye) (o:Nat),ap ah m S w cs us->
  (∀(j:Nat) (u:ye),us[j]? =some u->w.cell? ⟨b,o+j,none⟩=some u)->bR ah m S w cs b o
 | [],us,o,_,_=>by simp only [bR]
 | c::cs,us,o,h,hu=>by
  obtain ⟨u,r,rfl,h2,h3⟩:=h;refine ⟨⟨u,by simpa using hu 0 u (by simp),h2⟩,Dz cs r (o+1) h3 (fun j v hv=>?_)⟩;rw [show o+1+j=o+(j+1) by omega]
  simp_all
def aqP {m:Mp} {S:Nat->Prop} {w:yg} {cs dP:List AV} (h:∀us,ap O.ah m S w cs us->ap O.ah m S w dP us) {b o:Nat} (hr:bR O.ah m S w cs b o):bR O.ah m S w dP b o:=by
 obtain ⟨us,h1,_,h3⟩:=rD cs b o hr;exact Dz dP us o (h us h1) h3
def Bl:∀(k:Nat) {cs:List AV},aK cs=true->aK (cs.take k)=true
 | 0,_,_=>by simp [aK]
 | k+1,[],_=>by simp [aK]
 | k+1,c::cs,h=>by
  simp only [aK,yf,wb] at h ⊢;exact ⟨h.1,Bl k h.2⟩
def ajL {an:Hp} {vs dQ:List AV}:∀{n:Nat} {hp:Hp},cB n hp vs=some (dQ,an)->dQ.length=vs.length:=by
 intro n
 induction n generalizing vs dQ an with
 | zero=>intro hp h;simp [cB] at h
 | succ n ih=>
  intro hp h
  cases vs with
  | nil=>simp only [cB,yc,ym] at h;rw [<-h.1]
  | cons v r=>
   simp only [cB] at h
   cases h1:freeze n hp v with
   | none=>simp [h1] at h
   | some q=>
    obtain ⟨v',bA⟩:=q;simp only [h1] at h
    cases h2:cB n bA r with
    | none=>simp [h2] at h
    | some q2=>
     grind
def WE:∀n:Nat,
  (∀hp v v' an,freeze n hp v=some (v',an)->da hp an/\ju hp an/\RU O an v v')/\
  (∀hp id ex sz cs an,pH n hp id=some (ex,sz,cs,an)->da hp an/\ju hp an/\ast O an id ex sz cs)/\
  (∀hp vs dQ an,cB n hp vs=some (dQ,an)->da hp an/\ju hp an/\ac8 O an vs dQ):=by
 intro n
 induction n with
 | zero=>refine ⟨?_,?_,?_⟩<;>intros<;>simp_all [freeze,pH,cB]
 | succ n ih=>
  obtain ⟨ihV,ihB,EY⟩:=ih;refine ⟨?_,?_,?_⟩
  ·intro hp v v' an h;have plain:∀{v v':AV} {hp an:Hp},(bif aX v then some (v,hp) else none)=some (v',an)->da hp an/\ju hp an/\RU O an v v':=by
    intro v v' hp an h
    cases hc:aX v with
    | false=>rw [hc] at h;cases h
    | true=>
     rw [hc] at h;simp only [yy,yc,ym] at h;obtain ⟨rfl,rfl⟩:=h;exact ⟨da.refl,ju.refl,fun _ _ _ _ _ _ _=>⟨fun _ h=>h,hc⟩⟩
   cases v<;>simp only [freeze] at h<;>first | exact plain h | skip
   case aE id o k=>
    cases hb:pH n hp id with
    | none=>simp [hb] at h
    | some q=>
     obtain ⟨ex,sz,cs,bA⟩:=q;simp only [hb] at h
     cases hc:yB (o+k*sz) cs.length with
     | false=>rw [hc] at h;cases h
     | true=>
      rw [hc] at h;simp only [yy,yc,ym] at h;obtain ⟨rfl,rfl⟩:=h;have hle:=yr hc;obtain ⟨h1,h2,h3⟩:=ihB _ _ _ _ _ _ hb;refine ⟨h1,h2,fun H m S w ct hl hh=>⟨fun u hu=>?_,by simp only [aX]⟩⟩;simp only [ai] at hu ⊢;obtain ⟨p,c,hm,rfl,za,NR⟩:=hu;obtain ⟨g1,g2,g3,g4,g5,g6⟩:=h3 H m S w ct hl hh p hm;refine .inl ⟨p.b,p.o+o,c,rfl,za,?_,.inr g4,Bl _ (zy _ _ g5),Bo _ _ _ _ (pG _ _ _ _ g6)⟩;intro hx;simp only [yf] at hx;have e1:=yk hx.2;have e2:0<sz:=by
       simp_all
      have e3:=g3 hx.1.1;rw [g1] at NR
      have:c*sz=k*sz:=by omega
      exact Nat.eq_of_mul_eq_mul_right e2 this
   case ptr id o=>
    cases hb:pH n hp id with
    | none=>simp [hb] at h
    | some q=>
     obtain ⟨ex,sz,cs,bA⟩:=q;simp only [hb,yc,ym] at h;obtain ⟨rfl,rfl⟩:=h;obtain ⟨h1,h2,h3⟩:=ihB _ _ _ _ _ _ hb;refine ⟨h1,h2,fun H m S w ct hl hh=>⟨fun u hu=>?_,by simp only [aX]⟩⟩;simp only [ai] at hu ⊢;obtain ⟨p,hm,rfl⟩:=hu;obtain ⟨g1,g2,g3,g4,g5,g6⟩:=h3 H m S w ct hl hh p hm;exact ⟨p.b,p.o+o,rfl,.inr g4,zy _ _ g5,pG _ _ _ _ g6⟩
   case map id=>
    cases hg:aw hp id with
    | none=>simp [hg] at h
    | some ob=>
     cases ob<;>simp only [hg,reduceCtorEq] at h
     rename_i rw ks vs
     cases hc:(aK ks&&aK vs) with
     | false=>rw [hc] at h;cases h
     | true=>
      rw [hc] at h;simp only [yy,yc,ym] at h;obtain ⟨rfl,rfl⟩:=h;simp only [yf] at hc;obtain ⟨h1,h2⟩:=Qf hg (o':= .mp false ks vs) ⟨false,rfl,by simp⟩;refine ⟨h1,h2,fun H m S w ct hl hh=>⟨fun u hu=>?_,by simp only [aX]⟩⟩;simp only [ai] at hu ⊢;obtain ⟨p,hm,rfl⟩:=hu;have hq:aw (bh hp id (.mp false ks vs)) id=some (.mp false ks vs):=by rw [pJ];simp [hg]
      obtain ⟨o',h3,eH,rfl,h4⟩:=hl id _ hq;have nc:eH=false:=by cases eH with | false=>rfl | true=>exact absurd (h4 rfl) (by simp)
      subst nc;obtain ⟨p',es,clock,g1,g2,g3,g4,g5,g6⟩:=hh.obj id _ _ h3 hm;rw [hm] at g1;injection g1 with g1
      subst g1;exact ⟨p.b,es,clock,rfl,g6 rfl,hc.1,hc.2,g2,g3,g4⟩
   case fn f first cap=>
    cases f with
    | y l=>simp only [aX,yM,reduceCtorEq] at h
    | f g=>
     simp only at h
     cases h1:cB n hp first with
     | none=>simp [h1] at h
     | some q=>
      obtain ⟨ZW,bA⟩:=q;simp only [h1] at h
      cases h2:cB n bA cap with
      | none=>simp [h2] at h
      | some q2=>
       obtain ⟨Mt,iV⟩:=q2;simp only [h2,yc,ym] at h;obtain ⟨rfl,rfl⟩:=h;obtain ⟨a1,a2,a3⟩:=EY _ _ _ _ h1;obtain ⟨b1,b2,b3⟩:=EY _ _ _ _ h2;refine ⟨a1.trans b1,a2.trans b2,fun H m S w ct hl hh=>?_⟩;obtain ⟨c1,c2⟩:=a3 H m S w ct (b1.trans hl) hh;obtain ⟨d1,d2⟩:=b3 H m S w ct hl hh;refine ⟨fun u hu=>?_,by simp [aX,c2,d2]⟩;simp only [ai] at hu ⊢;obtain ⟨fi,ca,rfl,e1,e2⟩:=hu;exact ⟨fi,ca,rfl,c1 _ e1,d1 _ e2⟩
   case agg cs=>
    cases h1:cB n hp cs with
    | none=>simp [h1] at h
    | some q=>
     obtain ⟨dP,bA⟩:=q;simp only [h1,yc,ym] at h;obtain ⟨rfl,rfl⟩:=h;obtain ⟨a1,a2,a3⟩:=EY _ _ _ _ h1;refine ⟨a1,a2,fun H m S w ct hl hh=>?_⟩;obtain ⟨c1,c2⟩:=a3 H m S w ct hl hh;refine ⟨fun u hu=>?_,by simpa [aX] using c2⟩;simp only [ai] at hu ⊢;obtain ⟨xs,rfl,e1⟩:=hu;exact ⟨xs,rfl,c1 _ e1⟩
   case aq cs=>
    cases h1:cB n hp cs with
    | none=>simp [h1] at h
    | some q=>
     obtain ⟨dP,bA⟩:=q;simp only [h1,yc,ym] at h;obtain ⟨rfl,rfl⟩:=h;obtain ⟨a1,a2,a3⟩:=EY _ _ _ _ h1;refine ⟨a1,a2,fun H m S w ct hl hh=>?_⟩;obtain ⟨c1,c2⟩:=a3 H m S w ct hl hh;refine ⟨fun u hu=>?_,by simpa [aX] using c2⟩;simp only [ai] at hu ⊢;obtain ⟨xs,rfl,e1⟩:=hu;exact ⟨xs,rfl,c1 _ e1⟩
  ·intro hp id ex sz dP an h;simp only [pH] at h
   cases hg:aw hp id with
   | none=>simp [hg] at h
   | some ob=>
    cases ob<;>simp only [hg,reduceCtorEq] at h
    rename_i rw pu qK AS cs
    cases pu with
    | true=>
     simp only [yy,yc,ym] at h;obtain ⟨rfl,rfl,rfl,rfl⟩:=h;have hq:da hp (bif rw then bh hp id (.cells false true qK AS cs) else hp)/\ju hp (bif rw then bh hp id (.cells false true qK AS cs) else hp)/\aw (bif rw then bh hp id (.cells false true qK AS cs) else hp) id=some (.cells false true qK AS cs):=by
      cases rw with
      | true=>
       obtain ⟨h1,h2⟩:=Qf hg (o':= .cells false true qK AS cs) ⟨false,rfl,by simp⟩;exact ⟨h1,h2,by simp [pJ,hg]⟩
      | false=>exact ⟨da.refl,ju.refl,hg⟩
     refine ⟨hq.1,hq.2.1,fun H m S w ct hl hh p hm=>?_⟩;obtain ⟨p',arr,t,g1,g2,g3,g4,g5,g6,g7,g8,g9,g10⟩:=hh.obj id _ _ (Xr hl hq.2.2) hm;rw [hm] at g1;injection g1 with g1
     subst g1;exact ⟨g3,g4,g6,g10 rfl,g8 rfl,g7⟩
    | false=>
     simp only [yM] at h
     cases h1:cB n hp cs with
     | none=>simp [h1] at h
     | some q=>
      obtain ⟨qS,bA⟩:=q;simp only [h1,yc,ym] at h;obtain ⟨rfl,rfl,rfl,rfl⟩:=h;obtain ⟨a1,a2,a3⟩:=EY _ _ _ _ h1;obtain ⟨o1,gY,rw1,rfl,_⟩:=a1 id _ hg;obtain ⟨b1,b2⟩:=Qf gY (o':= .cells false false qK AS cs) ⟨false,rfl,by simp⟩;refine ⟨a1.trans b1,a2.trans b2,fun H m S w ct hl hh p hm=>?_⟩;have hq:aw (bh bA id (.cells false false qK AS cs)) id=some (.cells false false qK AS cs):=by simp [pJ,gY]
      obtain ⟨p',arr,t,g1,g2,g3,g4,g5,g6,g7,g8,g9,g10⟩:=hh.obj id _ _ (Xr hl hq) hm;rw [hm] at g1;injection g1 with g1
      subst g1;obtain ⟨c1,c2⟩:=a3 H m S w ct (b1.trans hl) hh;have hlen:=ajL h1
      exact ⟨g3,by omega,fun hx=>by have:=g6 hx;omega,g10 rfl,c2,aqP c1 g7⟩
  ·intro hp vs dQ an h
   cases vs with
   | nil=>
    simp only [cB,yc,ym] at h;obtain ⟨rfl,rfl⟩:=h;exact ⟨da.refl,ju.refl,fun _ _ _ _ _ _ _=>⟨fun _ h=>h,rfl⟩⟩
   | cons v r=>
    simp only [cB] at h
    cases h1:freeze n hp v with
    | none=>simp [h1] at h
    | some q=>
     obtain ⟨v1,bA⟩:=q;simp only [h1] at h
     cases h2:cB n bA r with
     | none=>simp [h2] at h
     | some q2=>
      obtain ⟨r1,iV⟩:=q2;simp only [h2,yc,ym] at h;obtain ⟨rfl,rfl⟩:=h;obtain ⟨a1,a2,a3⟩:=ihV _ _ _ _ h1;obtain ⟨b1,b2,b3⟩:=EY _ _ _ _ h2;refine ⟨a1.trans b1,a2.trans b2,fun H m S w ct hl hh=>?_⟩;obtain ⟨c1,c2⟩:=a3 H m S w ct (b1.trans hl) hh;obtain ⟨d1,d2⟩:=b3 H m S w ct hl hh;refine ⟨fun us hu=>?_,by simp [aK,c2,d2]⟩;simp only [ap] at hu ⊢;obtain ⟨u,t,rfl,e1,e2⟩:=hu;exact ⟨u,t,rfl,c1 _ e1,d1 _ e2⟩
def Pc {n:Nat} {hp an:Hp} {vs dQ:List AV} (h:cB n hp vs=some (dQ,an)):da hp an/\ju hp an/\ac8 O an vs dQ:=(WE n).2.2 _ _ _ _ h
def Pu {n:Nat} {hp an:Hp} {v v':AV} (h:freeze n hp v=some (v',an)):da hp an/\ju hp an/\RU O an v v':=(WE n).1 _ _ _ _ h
end
end
end VE
