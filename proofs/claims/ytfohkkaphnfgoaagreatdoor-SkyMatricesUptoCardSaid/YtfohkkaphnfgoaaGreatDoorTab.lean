import Derived.Maps.Keyed
import Derived.ChangeKeysEq
import Derived.Laws.Tables
import Derived.IntWalk
import Derived.Test.YtfohkkaphnfgoaaGreatDoorTaa
set_option linter.all false
set_option maxRecDepth 100000
open Array renaming range→uh
open Bool renaming and_assoc→uZ,and_eq_true→ye,not_eq_true'→ua
open Go renaming MapEntry→uv,Oper→y8,Operand→xy,Program→xi,TypeDesc→vj,TypeId→yy,Value→yf,World→yj,binOp→xP
open List renaming cons_append→xu,drop_drop→vG,flatten_append→uM,flatten_cons→xT,length_cons→yC,length_drop→wi,length_take→yQ,map_cons→yV,range→wS,replicate→yG,replicate_succ→wV,take_succ_cons→wh
open Nat renaming add_mul→xH,beq→yv,beq_refl→vm,ble→yE,eq_of_beq_eq_true→yo,le_of_ble_eq_true→yu,mul_comm→xC,one_mul→ybz
open Option.some renaming injEq→yc
open Prod.mk renaming injEq→yq
namespace VE
section
open Go
section
variable {ai:Nat->Nat} {m:Mp} {S:Nat->Prop} {w:yj}
def RN:∀{v:AV} {u:yf},aj ai m S w v u->bO (cellsOf v)=true->av ai m S w (cellsOf v) u.cells.toList:=by
 intro v u h h1;cases v
 case agg cs=>
  simp only [aj] at h;obtain ⟨xs,rfl,hr⟩:=h;exact hr
 case au vs=>simp [cellsOf,bO,bm] at h1
 case undef=>simp [cellsOf,bO,bm] at h1
 case bW=>simp [cellsOf,bO,bm] at h1
 case fn f a b=>
  cases f with
  | f g=>have h':=h;simp only [aj] at h';obtain ⟨fi,ca,rfl,_⟩:=h';simp only [cellsOf,Value.cells,av];exact ⟨_,_,rfl,h,rfl⟩
  | y l=>have h':=h;simp only [aj] at h';obtain ⟨p,_,rfl⟩:=h';simp only [cellsOf,Value.cells,av];exact ⟨_,_,rfl,h,rfl⟩
 case str s=>have h':=h;simp only [aj] at h';obtain ⟨b,rfl,_⟩:=h';simp only [cellsOf,Value.cells,av];exact ⟨_,_,rfl,h,rfl⟩
 case ptr id o=>have h':=h;simp only [aj] at h';obtain ⟨b,_,rfl⟩:=h';simp only [cellsOf,Value.cells,av];exact ⟨_,_,rfl,h,rfl⟩
 case aQ cs=>have h':=h;simp only [aj] at h';obtain ⟨b,o,rfl,_⟩:=h';simp only [cellsOf,Value.cells,av];exact ⟨_,_,rfl,h,rfl⟩
 case aJ e n cs=>have h':=h;simp only [aj] at h';rcases h' with ⟨b,o,c,rfl,_⟩ | ⟨a,rfl,_,_⟩<;>(simp only [cellsOf,Value.cells,av];exact ⟨_,_,rfl,h,rfl⟩)
 case aC id o n=>have h':=h;simp only [aj] at h';obtain ⟨p,c,_,rfl,_⟩:=h';simp only [cellsOf,Value.cells,av];exact ⟨_,_,rfl,h,rfl⟩
 case map id=>have h':=h;simp only [aj] at h';obtain ⟨p,_,rfl⟩:=h';simp only [cellsOf,Value.cells,av];exact ⟨_,_,rfl,h,rfl⟩
 case jN ks vs=>have h':=h;simp only [aj] at h';obtain ⟨b,es,cl,rfl,_⟩:=h';simp only [cellsOf,Value.cells,av];exact ⟨_,_,rfl,h,rfl⟩
 case it id=>have h':=h;simp only [aj] at h';obtain ⟨p,_,rfl⟩:=h';simp only [cellsOf,Value.cells,av];exact ⟨_,_,rfl,h,rfl⟩
 all_goals
  have h':=h;simp only [aj] at h';subst h';simp only [cellsOf,Value.cells,av];exact ⟨_,_,rfl,h,rfl⟩
def EN (v:yf):av ai m S w (cellsOf (eN v)) v.cells.toList:=by
 have h:=Nx (ai:=ai) (m:=m) (S:=S) (w:=w) v;cases v
 case agg xs=>
  obtain ⟨l⟩:=xs;simp only [eN,aj] at h ⊢;obtain ⟨xs,e,hr⟩:=h;injection e with e
  subst e;exact hr
 case tuple xs=>obtain ⟨l⟩:=xs;simp only [eN] at h ⊢;simp only [cellsOf,Value.cells,av];exact ⟨_,_,rfl,h,rfl⟩
 case pointer p=>cases p<;>(simp only [eN] at h ⊢;simp only [cellsOf,Value.cells,av];exact ⟨_,_,rfl,h,rfl⟩)
 case map p=>cases p<;>(simp only [eN] at h ⊢;simp only [cellsOf,Value.cells,av];exact ⟨_,_,rfl,h,rfl⟩)
 case slice p n c=>
  cases p
  ·cases n
   ·cases c<;>(simp only [eN] at h ⊢;simp only [cellsOf,Value.cells,av];exact ⟨_,_,rfl,h,rfl⟩)
   ·simp only [eN] at h ⊢;simp only [cellsOf,Value.cells,av];exact ⟨_,_,rfl,h,rfl⟩
  ·simp only [eN] at h ⊢;simp only [cellsOf,Value.cells,av];exact ⟨_,_,rfl,h,rfl⟩
 all_goals (simp only [eN] at h ⊢;simp only [cellsOf,Value.cells,av];exact ⟨_,_,rfl,h,rfl⟩)
def mg:∀{a b:List AV} {x y:List yf},av ai m S w a x->av ai m S w b y->av ai m S w (a++b) (x++y)
 | [],b,x,y,h,k=>by simp only [av] at h;subst h;simpa using k
 | c::a,b,x,y,h,k=>by
  simp only [av] at h;obtain ⟨u,r,rfl,h2,h3⟩:=h;simp only [xu,av];exact ⟨u,r++y,rfl,h2,mg h3 k⟩
def IC:∀(k:Nat) {cs:List AV} {us:List yf},av ai m S w cs us->av ai m S w (cs.drop k) (us.drop k)
 | 0,cs,us,h=>by simpa using h
 | k+1,[],us,h=>by simp only [av] at h;subst h;simp [av]
 | k+1,c::cs,us,h=>by simp only [av] at h;obtain ⟨u,r,rfl,_,h3⟩:=h;simpa using IC k h3
def EW:∀(k:Nat) {cs:List AV} {us:List yf},av ai m S w cs us->av ai m S w (cs.take k) (us.take k)
 | 0,cs,us,h=>by simp [av]
 | k+1,[],us,h=>by simp only [av] at h;subst h;simp [av]
 | k+1,c::cs,us,h=>by
  simp only [av] at h;obtain ⟨u,r,rfl,h2,h3⟩:=h;simp only [wh,av];exact ⟨u,_,rfl,h2,EW k h3⟩
def Sg:∀{cs:List AV} {us:List yf} {i:Nat} {v:AV},av ai m S w cs us->cs[i]? =some v->∃u,us[i]? =some u/\aj ai m S w v u
 | [],us,i,v,_,h=>by simp at h
 | c::cs,us,0,v,h,e=>by
  simp only [av] at h;obtain ⟨u,r,rfl,h2,h3⟩:=h;simp at e;subst e;exact ⟨u,rfl,h2⟩
 | c::cs,us,i+1,v,h,e=>by
  simp only [av] at h;obtain ⟨u,r,rfl,h2,h3⟩:=h;simp at e;simpa using Sg h3 e
end
def Zl (off:Nat):∀(new:List yf) (j:Nat) (cells:Array yf),off+j+new.length<=cells.size->
  ((new.zipIdx j).foldl (fun (cs:Array yf) (p:yf×Nat)=>cs.setIfInBounds (off+p.2) p.1) cells).toList=
   cells.toList.take (off+j)++new++cells.toList.drop (off+j+new.length)
 | [],j,cells,_=>by simp
 | v::r,j,cells,h=>by
  simp only [yC] at h;have ih:=Zl off r (j+1) (cells.setIfInBounds (off+j) v) (by simp;omega);simp only [List.zipIdx_cons,List.foldl_cons];rw [ih];have a7:off+j<cells.toList.length:=by simp;omega
  have h1:(cells.setIfInBounds (off+j) v).toList=cells.toList.set (off+j) v:=by simp
  rw [h1,show off+(j+1)=off+j+1 by omega];have h2:(cells.toList.set (off+j) v).take (off+j+1)=cells.toList.take (off+j)++[v]:=by
   rw [List.take_succ_eq_append_getElem (by simpa using a7)];simp [List.take_set_of_le]
  have h3:(cells.toList.set (off+j) v).drop (off+j+1+r.length)=cells.toList.drop (off+j+(r.length+1)):=by
   rw [List.drop_set_of_lt (by omega)];congr 1;omega
  rw [h2,h3]
  simp
section
variable {O:bt} {H:Hint} {m:Mp} {S:Nat->Prop} {w:yj} {tm:Env} {a:Act}
def Nz (hH:fN O H) (ht:cd O m S w tm a.tmps) {place:Nat->Option (Nat×Nat)}:∀(parts:List (Nat×xy)) (ps:List (Nat×Nat×X)) (zero cs:List AV) (cells:Array yf),
  partsOf H place parts=some ps->av O.ai m S w zero cells.toList->fill tm zero ps=some cs->
  ∃out,Instr.fill place cells (parts.map fun p=>(p.1,a.eval p.2))=some out/\av O.ai m S w cs out.toList
 | [],ps,zero,cs,cells,hp,hz,hf=>by
  simp only [partsOf,yc] at hp;subst hp;simp only [fill,yc] at hf;subst hf;exact ⟨cells,rfl,hz⟩
 | (i,x)::r,ps,zero,cs,cells,hp,hz,hf=>by
  simp only [partsOf] at hp
  cases fm:place i with
  | none=>simp [fm] at hp
  | some q=>
   obtain ⟨o,s⟩:=q;simp only [fm] at hp
   cases oE:partsOf H place r with
   | none=>simp [oE] at hp
   | some l=>
    simp only [oE,yc] at hp;subst hp;simp only [fill] at hf
    cases hc:(yv (cellsOf (aA tm (aS H x))).length s&&yE (o+s) zero.length&&bO (cellsOf (aA tm (aS H x)))) with
    | false=>rw [hc] at hf;cases hf
    | true=>
     rw [hc] at hf;simp only [yz] at hf;simp only [ye] at hc;have hs:=yo hc.1.1;have hle:=yu hc.1.2;have hrx:=RN (cF hH ht x) hc.2;have nM:=jc _ _ hrx;have sX:=jc _ _ hz;have eV:(a.eval x).cells.size=s:=by rw [<-hs,<-nM];simp
     have nN:cells.size=zero.length:=by rw [<-sX];simp
     have ate:=Zl o (a.eval x).cells.toList 0 cells (by simp;omega);have fe:av O.ai m S w (over o (cellsOf (aA tm (aS H x))) zero)
       ((a.eval x).cells.zipIdx.foldl (fun (cs:Array yf) (p:yf×Nat)=>cs.setIfInBounds (o+p.2) p.1) cells).toList:=by
      rw [<-Array.foldl_toList,Array.toList_zipIdx,ate];simp only [over,Nat.add_zero];rw [show (a.eval x).cells.toList.length=(cellsOf (aA tm (aS H x))).length from nM];exact mg (mg (EW o hz) hrx) (IC _ hz)
     obtain ⟨out,h1,h2⟩:=Nz hH ht r l _ cs _ oE fe hf;refine ⟨out,?_,h2⟩;simp only [yV,Instr.fill,fm,eV];rw [yA (by simp;omega)];exact h1
end
end
section
open Go
def Zm (p q:ByteArray):(p==q)=cI (mq p) (mq q):=by
 have h:(p==q)=(p.data==q.data):=by cases p;cases q;rfl
 rw [h,Zi,ByteArray.toList_eq,ByteArray.toList_eq];rw [Bool.eq_iff_iff,tU,tU];constructor
 ·intro e;rw [e]
 ·intro e;have:=congrArg List.toArray e;simpa using this
def OH:vj->Bool
 | .bool | .int _ | .string=>true
 | _=>false
def fits (d:vj) (v:AV):Bool:=
 match d,v with
 | .int _,.int _ _ | .string,.str _ | .bool,.bool _=>true
 | _,_=>false
def Found (ai:Nat->Nat) (m:Mp) (S:Nat->Prop) (w:yj) (f:Option (Option (Nat×yf))):Option AV->Prop
 | none=>f=some none
 | some v=>∃j u,f=some (some (j,u))/\aj ai m S w v u
section
variable {O:bt} {ai:Nat->Nat} {m:Mp} {S:Nat->Prop} {w:yj}
def aaa {vk vk':AV} {k k':yf} {r:Bool} {d:vj} (hk:aj ai m S w vk k) (oF:aj ai m S w vk' k') (h:so vk vk'=some r)
  (hd:fits d vk=true):Instr.sameNow d k k'=some r:=by
 unfold so at h
 split at h
 ·rename_i j x j' y;simp only [aj] at hk oF;subst hk;subst oF;by_cases hj:j=j'
  ·simp only [hj,xm,yc] at h;subst hj;cases d<;>simp [fits] at hd
   simpa [Instr.sameNow] using h
  ·simp [hj] at h
 ·simp only [aj] at hk oF;obtain ⟨s,rfl,rfl⟩:=hk;obtain ⟨s',rfl,rfl⟩:=oF;simp only [yc] at h;cases d<;>simp [fits] at hd
  simp only [Instr.sameNow,Zm];rw [<-h];rfl
 ·simp only [aj] at hk oF;subst hk;subst oF;simp only [yc] at h;cases d<;>simp [fits] at hd
  simp [Instr.sameNow,h]
 ·cases h
def Sh {vk:AV} {k:yf} {d:vj} (hk:aj ai m S w vk k)
  (hd:fits d vk=true):∀(ks vs:List AV) (es:List uv) (i:Nat) (r:Option AV),
  av ai m S w ks (es.map (·.key))->av ai m S w vs (es.map (·.val))->ss vk ks vs=some r->Found ai m S w (Instr.findNow d k es i) r
 | [],vs,es,i,r,h1,h2,h=>by
  simp only [av,List.map_eq_nil_iff] at h1;subst h1;simp only [ss,yc] at h;subst h;rfl
 | c::ks,[],es,i,r,h1,h2,h=>by simp only [ss] at h;cases h
 | c::ks,v::vs,es,i,r,h1,h2,h=>by
  cases es with
  | nil=>simp [av] at h1
  | cons e es=>
   simp only [yV,av,List.cons.injEq] at h1 h2;obtain ⟨u,t,⟨rfl,rfl⟩,hc,PT⟩:=h1;obtain ⟨u',t',⟨rfl,rfl⟩,hv,Av⟩:=h2;simp only [ss] at h
   cases Aw:so vk c with
   | none=>simp [Aw] at h
   | some b=>
    have hs:=aaa (d:=d) hk hc Aw hd
    cases b with
    | true=>
     simp only [Aw,yc] at h;subst h;exact ⟨i,e.val,by simp [Instr.findNow,hs],hv⟩
    | false=>
     simp only [Aw] at h;have ih:=Sh hk hd ks vs es (i+1) r PT Av h;simpa [Instr.findNow,hs] using ih
def Ms {P:xi} {kt:yy} {d:vj} (hu:P.underlying kt=some d) (hd:OH d=true) (b:Bool) (k:yf):(Instr.checkKey b 10000 kt k).run P w= .ok () w:=by
 have:∀n,(Instr.checkKey b (n+1) kt k).run P w= .ok () w:=by
  intro n;cases d<;>simp [OH] at hd<;>simp [Instr.checkKey,run_underlying hu]
 exact this 9999
def aqx {t kt e:yy} {d:vj} {ok:Bool} {hp:Hp} {ct:Nat} {vx vk v:AV} {x k zero:yf} (hh:aX O m S w hp ct) (hu:O.P.underlying t=some (.map kt e)) (hk:O.P.underlying kt=some d) (hd:OH d=true)
  (hdk:fits d vk=true)
  (hz:(zeroValue e).run O.P w= .ok zero w) (hx:aj O.ai m S w vx x) (hkr:aj O.ai m S w vk k) {z:AV} (Wa:aj O.ai m S w z zero)
  {r:Option AV}
  (hr:kW hp vk vx=some r)
  (hv:(match r with | some u=>(bif ok then AV.au [u,.bool true] else u) | none=>(bif ok then AV.au [z,.bool false] else z))=v):
  ∃u,(Instr.lookup t x k ok).run O.P w= .ok u w/\aj O.ai m S w v u:=by
 have fin:∀(u:AV) (uu:yf) (b:Bool),aj O.ai m S w u uu->aj O.ai m S w (bif ok then AV.au [u,.bool b] else u) (if ok then .tuple #[uu,.bool b] else uu):=by
  intro u uu b h
  cases ok with
  | true=>simp only [yz,xm,aj,av];exact ⟨_,rfl,_,_,rfl,h,_,_,rfl,rfl,rfl⟩
  | false=>simpa using h
 have body:∀(x':yf) (es:Array uv),((x'= .map none/\es=#[])\/∃b clock,x'= .map (some b)/\w.heap[b]? =some (.map es clock))->Found O.ai m S w (Instr.findNow d k es.toList 0) r->
   ∃u,(Instr.lookup t x' k ok).run O.P w= .ok u w/\aj O.ai m S w v u:=by
  intro x' es hl hf
  cases r with
  | none=>
   have et:Instr.findNow d k es.toList 0=some none:=hf;refine ⟨if ok then .tuple #[zero,.bool false] else zero,?_,by rw [<-hv];exact fin z zero false Wa⟩
   rcases hl with ⟨rfl,rfl⟩ | ⟨b,clock,rfl,hb⟩
   ·have Us:Instr.findNow d k [] 0=some none:=rfl;simp [Instr.lookup,run_underlying hu,Ms hk hd,Instr.findKey,run_underlying hk,Us,hz]
   ·simp [Instr.lookup,run_underlying hu,getObj,Sem.run,hb,Ms hk hd,Instr.findKey,run_underlying hk,et,hz]
  | some v'=>
   obtain ⟨j,u,h1,h2⟩:=hf;refine ⟨if ok then .tuple #[u,.bool true] else u,?_,by rw [<-hv];exact fin v' u true h2⟩
   rcases hl with ⟨rfl,rfl⟩ | ⟨b,clock,rfl,hb⟩
   ·have Us:Instr.findNow d k [] 0=some none:=rfl;rw [show (#[]:Array uv).toList=[] from rfl,Us] at h1;cases h1
   ·simp [Instr.lookup,run_underlying hu,getObj,Sem.run,hb,Ms hk hd,Instr.findKey,run_underlying hk,h1]
 cases vx<;>simp only [kW,reduceCtorEq] at hr
 case kH=>
  simp only [yc] at hr;subst hr;simp only [aj] at hx;subst hx;exact body _ #[] (.inl ⟨rfl,rfl⟩) rfl
 case map id=>
  simp only [aj] at hx;obtain ⟨p,hm,rfl⟩:=hx
  split at hr
  case h_2=>cases hr
  rename_i V9 ks vs Dt;obtain ⟨p',es,clock,gJ,hb,h1,h2,_⟩:=hh.obj id _ _ Dt hm;rw [hm] at gJ;injection gJ with gJ;subst gJ
  exact body _ es (.inr ⟨_,_,rfl,hb⟩) (Sh hkr hdk ks vs es.toList 0 r h1 h2 hr)
 case jN ks vs=>
  simp only [aj] at hx;obtain ⟨b,es,clock,rfl,_,_,_,hb,h1,h2⟩:=hx;exact body _ es (.inr ⟨_,_,rfl,hb⟩) (Sh hkr hdk ks vs es.toList 0 r h1 h2 hr)
end
end
section
open Go
def Iq:∀(k1 k2:List Nat) (a b:List AV) (r:Bool),dY (k1++k2) a b=some r->
  ∃r1 r2,dY k1 (a.take k1.length) (b.take k1.length)=some r1/\dY k2 (a.drop k1.length) (b.drop k1.length)=some r2/\r=(r1&&r2)
 | [],k2,a,b,r,h=>⟨true,r,by simp [dY],by simpa using h,by simp⟩
 | k::k1,k2,[],b,r,h=>by
  simp only [xu] at h;unfold dY at h
  grind
 | k::k1,k2,x::a,[],r,h=>by
  unfold dY at h
  grind
 | k::k1,k2,x::a,y::b,r,h=>by
  have step:∀(q:Bool) (f:Bool->Bool),(match dY (k1++k2) a b with | some r=>some (f r) | none=>none)=some q->∃r0,dY (k1++k2) a b=some r0/\q=f r0:=by grind
  unfold dY at h
  split at h
  ·grind
  ·rename_i e1 e2 e3;obtain ⟨rfl,rfl⟩:=e1;obtain ⟨rfl,rfl⟩:=e2;obtain ⟨rfl,rfl⟩:=e3;obtain ⟨r0,h0,rfl⟩:=step r _ h;obtain ⟨r1,r2,h1,h2,rfl⟩:=Iq k1 k2 _ _ r0 h0;exact ⟨_,r2,by simp only [yC,wh,dY,h1],by simpa using h2,(uZ _ _ _).symm⟩
  ·rename_i e1 e2 e3;obtain ⟨rfl,rfl⟩:=e1;obtain ⟨rfl,rfl⟩:=e2;obtain ⟨rfl,rfl⟩:=e3
   split at h
   ·rename_i hk;obtain ⟨r0,h0,rfl⟩:=step r _ h;obtain ⟨r1,r2,h1,h2,rfl⟩:=Iq k1 k2 _ _ r0 h0;exact ⟨_,r2,by simp only [yC,wh,dY,h1,hk,xm],by simpa using h2,(uZ _ _ _).symm⟩
   ·cases h
  ·rename_i e1 e2 e3;obtain ⟨rfl,rfl⟩:=e1;obtain ⟨rfl,rfl⟩:=e2;obtain ⟨rfl,rfl⟩:=e3;obtain ⟨r0,h0,rfl⟩:=step r _ h;obtain ⟨r1,r2,h1,h2,rfl⟩:=Iq k1 k2 _ _ r0 h0;exact ⟨_,r2,by simp only [yC,wh,dY,h1],by simpa using h2,(uZ _ _ _).symm⟩
  ·cases h
def Yi:∀(ks:List Nat) (a b:List AV) (r:Bool),dY ks a b=some r->a.length=ks.length/\b.length=ks.length
 | [],a,b,r,h=>by
  unfold dY at h
  grind
 | k::ks,[],b,r,h=>by
  unfold dY at h
  grind
 | k::ks,x::a,[],r,h=>by
  unfold dY at h
  grind
 | k::ks,x::a,y::b,r,h=>by
  have:∃r0,dY ks a b=some r0:=by
   cases he:dY ks a b with
   | some r0=>exact ⟨r0,rfl⟩
   | none=>unfold dY at h;split at h<;>simp_all
  obtain ⟨r0,h0⟩:=this
  have:=Yi ks a b r0 h0
  simp [this]
def GD (P:xi) (t:yy) (x:yf) (xs:List yf):Prop:=(dQ P t=some true/\x= .agg xs.toArray)\/(dQ P t=some false/\xs=[x])
section
variable {P:xi} {ai:Nat->Nat} {m:Mp} {S:Nat->Prop} {w:yj}
def Rw {t:yy} {ag:Bool} (ha:dQ P t=some ag):(isAgg t).run P w= .ok ag w:=by
 unfold dQ at ha
 cases hu:P.underlying t with
 | none=>simp [hu] at ha
 | some d=>cases d<;>simp_all [isAgg,underlying]
def alS {t:yy} {s o:Nat} {xs:List yf} (hz:cL P t=some s) (ha:∃ag,dQ P t=some ag) (h1:dQ P t=some false->s=1) (hl:o+s<=xs.length):
  ∃u,(part t xs.toArray o).run P w= .ok u w/\GD P t u ((xs.drop o).take s):=by
 obtain ⟨ag,ha⟩:=ha
 cases ag with
 | true=>
  refine ⟨.agg ((xs.drop o).take s).toArray,?_,.inl ⟨ha,rfl⟩⟩;simp [part,Rw ha,nV hz,List.extract_eq_take_drop]
 | false=>
  have hs:=h1 ha;subst hs;have a7:o<xs.length:=by omega
  refine ⟨xs[o],?_,.inr ⟨ha,?_⟩⟩
  ·simp [part,Rw ha,List.getElem?_eq_getElem a7]
  ·rw [List.drop_eq_getElem_cons a7,wh,List.take_zero]
def aj2 {n:Nat} {t:yy} {ks:List Nat} (h:kinds P n t=some ks):∃ag,dQ P t=some ag/\(ag=false->ks.length=1):=by
 cases n with
 | zero=>simp [kinds] at h
 | succ n=>
  unfold kinds at h;unfold dQ
  split at h<;>simp_all
  all_goals (rw [<-h];rfl)
def TQ (P:xi) (ai:Nat->Nat) (m:Mp) (S:Nat->Prop) (w:yj) (n:Nat):Prop:=
 ∀(t:yy) (ks:List Nat),kinds P n t=some ks->P.stoodInHeld t=false->∀(d:Nat),n<=d->∀(xs ys:List yf) (cs ej:List AV) (r:Bool) (x y:yf),
  av ai m S w cs xs->av ai m S w ej ys->dY ks cs ej=some r->GD P t x xs->GD P t y ys->(Op.equalIn d t x y).run P w= .ok r w
def Zn {n:Nat} (ih:TQ P ai m S w n) {t:yy} {ks:List Nat} {s o d:Nat} (hk:kinds P n t=some ks) (aP:P.stoodInHeld t=false) (hz:cL P t=some s) (hs:ks.length=s) (hd:n<=d)
  {xs ys:List yf} {cs ej:List AV} (h1:av ai m S w cs xs) (h2:av ai m S w ej ys) {r:Bool} (he:dY ks ((cs.drop o).take s) ((ej.drop o).take s)=some r):
  ∃u u',(part t xs.toArray o).run P w= .ok u w/\(part t ys.toArray o).run P w= .ok u' w/\(Op.equalIn d t u u').run P w= .ok r w:=by
 obtain ⟨ag,ha,h1s⟩:=aj2 hk;obtain ⟨l1,l2⟩:=Yi _ _ _ _ he;have q1:=jc _ _ h1;have q2:=jc _ _ h2;simp only [yQ,wi] at l1 l2;have lW:dQ P t=some false->s=1:=fun h=>by
  grind
 have nM:o+s<=xs.length\/s=0:=by omega
 have sX:o+s<=ys.length\/s=0:=by omega
 have get:∀(zs:List yf),(o+s<=zs.length\/s=0)->∃u,(part t zs.toArray o).run P w= .ok u w/\GD P t u ((zs.drop o).take s):=by
  intro zs hl;rcases hl with hl | hl
  ·exact alS hz ⟨ag,ha⟩ lW hl
  ·subst hl
   cases ag with
   | false=>have:=lW ha;omega
   | true=>
    refine ⟨.agg ((zs.drop o).take 0).toArray,?_,.inl ⟨ha,rfl⟩⟩;simp [part,Rw ha,nV hz]
 obtain ⟨u,p1,v1⟩:=get xs nM;obtain ⟨u',p2,v2⟩:=get ys sX;exact ⟨u,u',p1,p2,ih t ks hk aP d hd _ _ _ _ r u u' (EW s (IC o h1)) (EW s (IC o h2)) he v1 v2⟩
def Yj {n:Nat} (ih:TQ P ai m S w n) {d:Nat} (hd:n<=d) {xs ys:List yf} {cs ej:List AV} (h1:av ai m S w cs xs) (h2:av ai m S w ej ys):
  ∀(fs:List Field) (o:Nat) (ks:List Nat) (r:Bool),ES P (fun u=>kinds P n u) fs o=some ks->dY ks (cs.drop o) (ej.drop o)=some r->(Op.eqFields d xs.toArray ys.toArray fs).run P w= .ok r w
 | [],o,ks,r,h,he=>by
  simp only [ES,yc] at h;unfold dY at he
  split at he<;>simp_all [Op.eqFields]
 | f::fs,o,ks,r,h,he=>by
  simp only [ES] at h
  cases hk:kinds P n f.type with
  | none=>simp [hk] at h
  | some kf=>
   cases hz:cL P f.type with
   | none=>simp [hk,hz] at h
   | some s=>
    simp only [hk,hz] at h
    cases hc:(f.name != "_"&&yv f.offset o&&yv kf.length s&& !P.stoodInHeld f.type) with
    | false=>rw [hc] at h;cases h
    | true=>
     rw [hc] at h;simp only [yz] at h;simp only [ye,bne_iff_ne,ua] at hc;obtain ⟨⟨⟨hn,ho⟩,hl⟩,aP⟩:=hc;have ho:=yo ho;have hl:=yo hl
     cases hr:ES P (fun u=>kinds P n u) fs (o+s) with
     | none=>simp [hr] at h
     | some kr=>
      simp only [hr,yc] at h;subst h;obtain ⟨r1,r2,e1,e2,rfl⟩:=Iq _ _ _ _ _ he;rw [hl] at e1 e2;rw [vG,vG] at e2;obtain ⟨u,u',p1,p2,p3⟩:=Zn ih (o:=o) hk aP hz hl hd h1 h2 e1;have rest:=Yj ih hd h1 h2 fs (o+s) kr r2 hr e2;subst ho;simp only [Op.eqFields]
      cases r1 with
      | true=>simp [hn,p1,p2,p3,rest]
      | false=>simp [hn,p1,p2,p3]
def YE {n:Nat} (ih:TQ P ai m S w n) {d:Nat} (hd:n<=d) {xs ys:List yf} {cs ej:List AV} (h1:av ai m S w cs xs) (h2:av ai m S w ej ys)
  {e:yy} {ks:List Nat} {s:Nat} (hk:kinds P n e=some ks) (aP:P.stoodInHeld e=false) (hz:cL P e=some s) (hl:ks.length=s):
  ∀(k j:Nat) (r:Bool),dY (yG k ks).flatten (cs.drop (j*s)) (ej.drop (j*s))=some r->(Op.eqItems d e s xs.toArray ys.toArray (List.range' j k)).run P w= .ok r w
 | 0,j,r,he=>by
  unfold dY at he
  split at he<;>simp_all [Op.eqItems]
 | k+1,j,r,he=>by
  obtain ⟨r1,r2,e1,e2,rfl⟩:=Iq _ _ _ _ _ he;rw [hl] at e1 e2;rw [vG,vG,show j*s+s=(j+1)*s by rw [xH,ybz]] at e2;obtain ⟨u,u',p1,p2,p3⟩:=Zn ih (o:=j*s) hk aP hz hl hd h1 h2 e1;have rest:=YE ih hd h1 h2 hk aP hz hl k (j+1) r2 e2;rw [List.range'_succ];simp only [Op.eqItems]
  cases r1 with
  | true=>simp [p1,p2,p3,rest]
  | false=>simp [p1,p2,p3]
def Th:∀(n:Nat) (t:yy) (ks:List Nat),kinds P n t=some ks->P.stoodInHeld t=false->∀(d:Nat),n<=d->∀(xs ys:List yf) (cs ej:List AV) (r:Bool) (x y:yf),
  av ai m S w cs xs->av ai m S w ej ys->dY ks cs ej=some r->GD P t x xs->GD P t y ys->(Op.equalIn d t x y).run P w= .ok r w
 | 0,t,ks,h,_,_,_,_,_,_,_,_,_,_,_,_,_,_,_=>by simp [kinds] at h
 | n+1,t,ks,h,aP,0,hd,_,_,_,_,_,_,_,_,_,_,_,_=>by omega
 | n+1,t,ks,h,aP,d+1,hd,xs,ys,cs,ej,r,x,y,h1,h2,he,hx,hy=>by
  unfold kinds at h;have one:∀{k:Nat},ks=[k]->dQ P t=some false->∃c c',cs=[c]/\ej=[c']/\aj ai m S w c x/\aj ai m S w c' y:=by
   intro k hk ha;rcases hx with ⟨hx,_⟩ | ⟨_,rfl⟩
   ·grind
   rcases hy with ⟨hy,_⟩ | ⟨_,rfl⟩
   ·grind
   have l1:=jc _ _ h1;have l2:=jc _ _ h2
   match cs,ej,l1,l2 with
   | [c],[c'],_,_=>
    simp only [av] at h1 h2
    grind
  split at h
  ·rename_i hu;simp only [yc] at h;have ha:dQ P t=some false:=by simp [dQ,hu]
   obtain ⟨c,c',rfl,rfl,r1,r2⟩:=one h.symm ha;subst h;unfold dY at he
   split at he<;>simp_all [dY]
   subst he;simp only [aj] at r1 r2;subst r1;subst r2;simp [Op.equalIn,run_underlying hu]
  ·rename_i k0 hu;simp only [yc] at h;have ha:dQ P t=some false:=by simp [dQ,hu]
   obtain ⟨c,c',rfl,rfl,r1,r2⟩:=one h.symm ha;subst h;unfold dY at he
   split at he<;>simp_all [dY]
   obtain ⟨hk,he⟩:=he;subst he;simp only [aj] at r1 r2;subst r1;subst r2;simp [Op.equalIn,run_underlying hu]
  ·rename_i hu;simp only [yc] at h;have ha:dQ P t=some false:=by simp [dQ,hu]
   obtain ⟨c,c',rfl,rfl,r1,r2⟩:=one h.symm ha;subst h;unfold dY at he
   split at he<;>simp_all [dY]
   subst he;simp only [aj] at r1 r2;obtain ⟨s,rfl,rfl⟩:=r1;obtain ⟨s',rfl,rfl⟩:=r2;simp only [Op.equalIn,Sem.run_bind,run_underlying hu,Result.andThen_ok,Sem.run_pure,Zm];rfl
  ·rename_i fs hu;have ha:dQ P t=some true:=by simp [dQ,hu]
   rcases hx with ⟨_,rfl⟩ | ⟨hx,_⟩
   ·rcases hy with ⟨_,rfl⟩ | ⟨hy,_⟩
    ·have hf:P.fieldsOf t=fs:=by simp [Program.fieldsOf,hu]
     rw [run_equalIn_struct w d t _ _ (by rw [hf];exact hu) aP,hf]
     exact Yj (Th n) (by omega) h1 h2 fs.toList 0 ks r h (by simpa using he)
    ·rw [ha] at hy;cases hy
   ·rw [ha] at hx;cases hx
  ·rename_i k e hu;have ha:dQ P t=some true:=by simp [dQ,hu]
   rcases hx with ⟨_,rfl⟩ | ⟨hx,_⟩
   ·rcases hy with ⟨_,rfl⟩ | ⟨hy,_⟩
    ·cases hk:kinds P n e with
     | none=>simp [hk] at h
     | some ke=>
      cases hz:cL P e with
      | none=>simp [hk,hz] at h
      | some s=>
       simp only [hk,hz] at h
       cases hc:(yv ke.length s&& !P.stoodInHeld e) with
       | false=>rw [hc] at h;cases h
       | true=>
        rw [hc] at h;simp only [yz,yc] at h;subst h;simp only [ye,ua] at hc;have fe:=hz;unfold cL at fe
        cases hi:P.info? e with
        | none=>simp [hi] at fe
        | some i=>
         simp only [hi,yc] at fe;have nN:P.cellsOf e=s:=by simp [Program.cellsOf,hi,fe]
         rw [run_equalIn_array w d _ _ hu hi,nN,List.range_eq_range'];exact YE (Th n) (by omega) h1 h2 hk hc.2 hz (yo hc.1) k 0 r (by simpa using he)
    ·rw [ha] at hy;cases hy
   ·rw [ha] at hx;cases hx
  ·cases h
end
end
section
open Go
def dF {tm:Env} {hp:Hp} {v:AV} (h:bE tm hp bad=some v):False:=by simp [bad,bE] at h
section
variable {O:bt} {H:Hint} {m:Mp} {S:Nat->Prop} {w:yj} {tm:Env} {a:Act} {hp:Hp} {ct:Nat}
def aod {ai:Nat->Nat} {va vb v:AV} {x y:yf} (hx:aj ai m S w va x) (hy:aj ai m S w vb y) (h:VE.min2 va vb=some v):∃u,(Builtin.min2 x y).run O.P w= .ok u w/\aj ai m S w v u:=by
 unfold VE.min2 at h
 split at h
 ·simp only [aj] at hx hy;subst hx;subst hy;simp only [yc] at h;subst h;exact ⟨_,by simp only [Builtin.min2,Sem.run_pure];rfl,by simp only [aj]⟩
 ·rename_i k p k' q;simp only [aj] at hx hy;subst hx;subst hy
  cases ho:k.format.order p q with
  | none=>simp [ho] at h
  | some c=>cases c<;>(simp only [ho,yc] at h;subst h;exact ⟨_,by simp only [Builtin.min2,ho,Sem.run_pure];rfl,by simp only [aj]⟩)
 ·cases h
def aoe {ai:Nat->Nat} {va vb v:AV} {x y:yf} (hx:aj ai m S w va x) (hy:aj ai m S w vb y) (h:VE.max2 va vb=some v):∃u,(Builtin.max2 x y).run O.P w= .ok u w/\aj ai m S w v u:=by
 unfold VE.max2 at h
 split at h
 ·simp only [aj] at hx hy;subst hx;subst hy;simp only [yc] at h;subst h;exact ⟨_,by simp only [Builtin.max2,Sem.run_pure];rfl,by simp only [aj]⟩
 ·rename_i k p k' q;simp only [aj] at hx hy;subst hx;subst hy
  cases ho:k.format.order p q with
  | none=>simp [ho] at h
  | some c=>cases c<;>(simp only [ho,yc] at h;subst h;exact ⟨_,by simp only [Builtin.max2,ho,Sem.run_pure];rfl,by simp only [aj]⟩)
 ·cases h
def SI {ai:Nat->Nat} {f:AV->AV->Option AV} {g:yf->yf->Sem yf} (hfg:∀va vb v x y,aj ai m S w va x->aj ai m S w vb y->f va vb=some v->∃u,(g x y).run O.P w= .ok u w/\aj ai m S w v u):
  ∀(l:List AV) (us:List yf) (va v:AV) (x:yf),aj ai m S w va x->av ai m S w l us->Bo f va l=some v->∃u,(us.foldlM g x).run O.P w= .ok u w/\aj ai m S w v u
 | [],us,va,v,x,hx,hl,h=>by
  simp only [av] at hl;subst hl;simp only [Bo,yc] at h;subst h;exact ⟨x,by simp,hx⟩
 | b::l,us,va,v,x,hx,hl,h=>by
  simp only [av] at hl;obtain ⟨u,r,rfl,hu,hr⟩:=hl;simp only [Bo] at h
  cases hf:f va b with
  | none=>simp [hf] at h
  | some c=>
   simp only [hf] at h;obtain ⟨u1,h1,h2⟩:=hfg _ _ _ _ _ hx hu hf;obtain ⟨u2,h3,h4⟩:=SI hfg l r c v u1 h2 hr h;exact ⟨u2,by simp [h1,h3],h4⟩
def Ti {t:yy} {vx v:AV} {x:yf} {ty:yy} (hh:aX O m S w hp ct) (hx:aj O.ai m S w vx x)
  {k:Nat} (hu:(k=0/\O.P.underlying t=some .string)\/(k=1/\∃e,O.P.underlying t=some (.slice e))\/(k=2/\∃kt e,O.P.underlying t=some (.map kt e)))
  (h:ia hp k vx=some v):∃u,(Builtin.len_ #[t] ty #[x]).run O.P w= .ok u w/\aj O.ai m S w v u:=by
 rcases hu with ⟨rfl,hu⟩ | ⟨rfl,e,hu⟩ | ⟨rfl,kt,e,hu⟩
 all_goals cases vx<;>simp only [ia,reduceCtorEq] at h
 case inl.str s=>
  simp only [aj] at hx;obtain ⟨b,rfl,rfl⟩:=hx;simp only [yc] at h;subst h;refine ⟨_,by simp [Builtin.len_,run_underlying hu];rfl,?_⟩
  simp only [aj,goInt];rw [Lib.size_eq];simp
 case inr.inl.ab=>
  simp only [aj] at hx;subst hx;simp only [yc] at h;subst h;exact ⟨_,by simp [Builtin.len_,run_underlying hu];rfl,by simp [aj,goInt]⟩
 case inr.inl.aJ ex n cs=>
  simp only [aj] at hx;rcases hx with ⟨b,o,c,rfl,_⟩ | ⟨a,rfl,rfl,rfl⟩
  all_goals
   simp only [yc] at h;subst h;exact ⟨_,by simp [Builtin.len_,run_underlying hu];rfl,by simp [aj,goInt]⟩
 case inr.inl.aC id o n=>
  simp only [aj] at hx;obtain ⟨p,c,_,rfl,_⟩:=hx;simp only [yc] at h;subst h;exact ⟨_,by simp [Builtin.len_,run_underlying hu];rfl,by simp [aj,goInt]⟩
 case inr.inr.kH=>
  simp only [aj] at hx;subst hx;simp only [yc] at h;subst h;exact ⟨_,by simp [Builtin.len_,run_underlying hu];rfl,by simp [aj,goInt]⟩
 case inr.inr.jN ks vs=>
  simp only [aj] at hx;obtain ⟨b,es,clock,rfl,_,_,_,hb,h1,_⟩:=hx;simp only [yc] at h;subst h;refine ⟨_,by simp [Builtin.len_,run_underlying hu,getObj,Sem.run,hb];rfl,?_⟩
  have:=jc _ _ h1
  simp only [aj,goInt];rw [<-this];simp
 case inr.inr.map id=>
  simp only [aj] at hx;obtain ⟨p,hm,rfl⟩:=hx
  split at h
  case h_2=>cases h
  rename_i V9 ks vs Dt;simp only [yc] at h;subst h;obtain ⟨p',es,clock,gJ,hb,h1,_⟩:=hh.obj id _ _ Dt hm;rw [hm] at gJ;injection gJ with gJ;subst gJ
  refine ⟨_,by simp [Builtin.len_,run_underlying hu,getObj,Sem.run,hb];rfl,?_⟩
  have:=jc _ _ h1
  simp only [aj,goInt];rw [<-this];simp
end
end
section
open Go
section
variable {O:bt} {H:Hint} {m:Mp} {S:Nat->Prop} {w:yj} {tm:Env} {a:Act} {hp:Hp} {ct:Nat}
def E7 {t:yy} {z:AV} (h:nv O.P t=some z):∃v,(zeroValue t).run O.P w= .ok v w/\z=eN v:=by
 unfold nv at h
 cases hi:O.P.info? t with
 | none=>simp [hi] at h
 | some i=>
  simp only [hi] at h
  cases hz:i.zero with
  | none=>simp [hz] at h
  | some v=>
   simp only [hz,yc] at h;exact ⟨v,by simp [zeroValue,typeInfo,hi,hz],h.symm⟩
def Reads (O:bt) (m:Mp) (S:Nat->Prop) (w:yj) (a:Act) (o:y8) (v:AV):Prop:=
 ∃u,(execOp a.eval o).run O.P w= .ok (.value u) w/\aj O.ai m S w v u
def jY {o:y8} {v:AV} {s:Sem yf} (he:execOp a.eval o=(do pure (.value (<-s)):Sem Next)) (h:∃u,s.run O.P w= .ok u w/\aj O.ai m S w v u):Reads O m S w a o v:=by
 obtain ⟨u,h1,h2⟩:=h;exact ⟨u,by rw [he];simp [h1],h2⟩
def alT {o:y8} {op:BinOp} {t ty:yy} {x y:xy} {k:Nat} {v:AV} (hH:fN O H) (ht:cd O m S w tm a.tmps) (ho:o.op= .binOp op t x y ty)
  (hv:bE tm hp (bq O.P H k o)=some v):Reads O m S w a o v:=by
 have rx:=cF hH ht x;have ry:=cF hH ht y;have guard:∀{u:yf},(∀xs ys,¬(a.eval x= .agg xs/\a.eval y= .agg ys))\/O.P.eqGuardType O.P.depth t=false->a.eval x≠.nilIface->(xP op t (a.eval x) (a.eval y)).run O.P w= .ok u w->
   (do eqGuard op t x y (a.eval x) (a.eval y);xP op t (a.eval x) (a.eval y):Sem yf).run O.P w= .ok u w:=by
  intro u h1 h2 h3
  simp only [Sem.run_bind,ajb (P:=O.P) (w:=w) (t:=t) (op:=op) (x:=x) (y:=y) (h1.symm) h2,Result.andThen_ok,h3]
 have plain:bE tm hp (.bin op (aS H x) (aS H y))=some v->Reads O m S w a o v:=by
  intro hv;simp only [bE] at hv;obtain ⟨u,h1,h2⟩:=alP (P:=O.P) (t:=t) rx ry hv
  refine jY (s:=do eqGuard op t x y (a.eval x) (a.eval y);xP op t (a.eval x) (a.eval y)) (by simp only [execOp,ho]) ⟨u,guard (.inl ?_) ?_ h1,h2⟩
  ·rintro xs ys ⟨e1,e2⟩;rw [e1] at rx;unfold VE.binOp at hv
   split at hv
   ·rename_i h3 _;rw [h3] at rx;simp [aj] at rx
   ·rename_i h3 _;rw [h3] at rx;simp [aj] at rx
   ·rename_i h3 _;rw [h3] at rx;simp [aj] at rx
   ·cases hv
  ·intro e1;rw [e1] at rx;unfold VE.binOp at hv
   split at hv
   ·rename_i h3 _;rw [h3] at rx;simp [aj] at rx
   ·rename_i h3 _;rw [h3] at rx;simp [aj] at rx
   ·rename_i h3 _;rw [h3] at rx;simp [aj] at rx
   ·cases hv
 have other:∀(ne:Bool) (kd:VE.PR),(op= .eql/\ne=false\/op= .neq/\ne=true)->(∀r,jz kd (aA tm (aS H x)) (aA tm (aS H y))=some r->(Op.equal t (a.eval x) (a.eval y)).run O.P w= .ok r w/\
    ((∀xs ys,¬(a.eval x= .agg xs/\a.eval y= .agg ys))\/O.P.eqGuardType O.P.depth t=false)/\a.eval x≠.nilIface/\
    ∀q:Bool,(op= .eql->xP op t (a.eval x) (a.eval y)=(do pure (.bool (<-Op.equal t (a.eval x) (a.eval y)))))/\(op= .neq->xP op t (a.eval x) (a.eval y)=(do pure (.bool (!(<-Op.equal t (a.eval x) (a.eval y)))))))->
   bE tm hp (.eq ne kd (aS H x) (aS H y))=some v->Reads O m S w a o v:=by
  intro ne kd jR mG hv;simp only [bE] at hv
  cases he:jz kd (aA tm (aS H x)) (aA tm (aS H y)) with
  | none=>simp [he] at hv
  | some r=>
   simp only [he,yc] at hv;subst hv;obtain ⟨h1,h2,h3,h4⟩:=mG r he;obtain ⟨h5,h6⟩:=h4 true
   refine jY (s:=do eqGuard op t x y (a.eval x) (a.eval y);xP op t (a.eval x) (a.eval y)) (by simp only [execOp,ho]) ⟨.bool (ne !=r),guard h2 h3 ?_,by simp [aj]⟩
   rcases jR with ⟨rfl,rfl⟩ | ⟨rfl,rfl⟩
   ·rw [h5 rfl];simp [h1]
   ·rw [h6 rfl];simp [h1]
 have pB:O.P.underlying t=some .bool->∀r,jz .b (aA tm (aS H x)) (aA tm (aS H y))=some r->∃p q,a.eval x= .bool p/\a.eval y= .bool q/\(Op.equal t (a.eval x) (a.eval y)).run O.P w= .ok r w:=by
  intro hu r he;cases hx:aA tm (aS H x)<;>cases hy:aA tm (aS H y)<;>rw [hx,hy] at he<;>simp only [jz,reduceCtorEq] at he
  rw [hx] at rx;rw [hy] at ry;simp only [aj] at rx ry;simp only [yc] at he;refine ⟨_,_,rx,ry,?_⟩;rw [rx,ry,M6,<-he];exact aqq hu
 have pS:∀e,O.P.underlying t=some (.slice e)->∀r,jz .sl (aA tm (aS H x)) (aA tm (aS H y))=some r->∃p n c q n' c',a.eval x= .slice p n c/\a.eval y= .slice q n' c'/\(Op.equal t (a.eval x) (a.eval y)).run O.P w= .ok r w:=by
  intro e hu r he;have h1:=aoa hu rx ry he;have sl:∀{v:AV} {u:yf},aj O.ai m S w v u->(v= .ab\/(∃a b c,v= .aJ a b c)\/∃a b c,v= .aC a b c)->∃p n c,u= .slice p n c:=by
   intro v u hr hv;rcases hv with rfl | ⟨_,_,_,rfl⟩ | ⟨_,_,_,rfl⟩
   ·simp only [aj] at hr;exact ⟨_,_,_,hr⟩
   ·simp only [aj] at hr;rcases hr with ⟨b,o,c,hr,_⟩ | ⟨_,hr,_⟩<;>exact ⟨_,_,_,hr⟩
   ·simp only [aj] at hr;obtain ⟨b,c,_,hr,_⟩:=hr;exact ⟨_,_,_,hr⟩
  have cY:(aA tm (aS H x)= .ab\/(∃a b c,aA tm (aS H x)= .aJ a b c)\/∃a b c,aA tm (aS H x)= .aC a b c)/\
    (aA tm (aS H y)= .ab\/(∃a b c,aA tm (aS H y)= .aJ a b c)\/∃a b c,aA tm (aS H y)= .aC a b c):=by
   cases hx:aA tm (aS H x)<;>cases hy:aA tm (aS H y)<;>rw [hx,hy] at he<;>simp [jz] at he ⊢
  obtain ⟨p,n,c,e1⟩:=sl rx cY.1;obtain ⟨q,n',c',e2⟩:=sl ry cY.2;exact ⟨p,n,c,q,n',c',e1,e2,h1⟩
 have pF:∀ps rs vr,O.P.underlying t=some (.func ps rs vr)->∀r,jz .fn (aA tm (aS H x)) (aA tm (aS H y))=some r->
   ((a.eval x= .nilFunc\/∃f p q,a.eval x= .func f p q)/\(a.eval y= .nilFunc\/∃f p q,a.eval y= .func f p q))/\(Op.equal t (a.eval x) (a.eval y)).run O.P w= .ok r w:=by
  intro ps rs vr hu r he;have h1:=aob hu rx ry he;have sl:∀{v:AV} {u:yf},aj O.ai m S w v u->(v= .iS\/(∃a b c,v= .fn a b c))->(u= .nilFunc\/∃f p q,u= .func f p q):=by
   intro v u hr hv;rcases hv with rfl | ⟨f,_,_,rfl⟩
   ·simp only [aj] at hr;exact .inl hr
   ·cases f with
    | f g=>simp only [aj] at hr;obtain ⟨b,c,hr,_⟩:=hr;exact .inr ⟨_,_,_,hr⟩
    | y l=>simp only [aj] at hr;obtain ⟨b,_,hr⟩:=hr;exact .inr ⟨_,_,_,hr⟩
  have cY:(aA tm (aS H x)= .iS\/(∃a b c,aA tm (aS H x)= .fn a b c))/\(aA tm (aS H y)= .iS\/(∃a b c,aA tm (aS H y)= .fn a b c)):=by
   cases hx:aA tm (aS H x)<;>cases hy:aA tm (aS H y)<;>rw [hx,hy] at he<;>simp [jz] at he ⊢
  exact ⟨⟨sl rx cY.1,sl ry cY.2⟩,h1⟩
 have pA:∀ks,kinds O.P 20 t=some ks->dQ O.P t=some true->O.P.stoodInHeld t=false->∀r,jz (.ag ks) (aA tm (aS H x)) (aA tm (aS H y))=some r->∃p q,a.eval x= .agg p/\a.eval y= .agg q/\(Op.equal t (a.eval x) (a.eval y)).run O.P w= .ok r w:=by
  intro ks hk ha aP r he;cases hx:aA tm (aS H x)<;>cases hy:aA tm (aS H y)<;>rw [hx,hy] at he<;>simp only [jz,reduceCtorEq] at he
  rw [hx] at rx;rw [hy] at ry;simp only [aj] at rx ry;obtain ⟨p,e1,h1⟩:=rx;obtain ⟨q,e2,h2⟩:=ry;refine ⟨p,q,e1,e2,?_⟩;rw [e1,e2,M6];exact Th 20 t ks hk aP 10000 (by omega) _ _ _ _ r _ _ h1 h2 he (.inl ⟨ha,by simp⟩) (.inl ⟨ha,by simp⟩)
 have eqs:∀(ne:Bool),(op= .eql/\ne=false\/op= .neq/\ne=true)->bE tm hp (rZ O.P H ne op t x y)=some v->Reads O m S w a o v:=by
  intro ne jR hv;have agg:dQ O.P t=some true->bE tm hp (zG O.P H ne t x y)=some v->Reads O m S w a o v:=by
   intro ha hv;unfold zG at hv
   cases hk:kinds O.P 20 t with
   | none=>rw [hk] at hv;exact (dF hv).elim
   | some ks=>
    simp only [hk] at hv
    cases hc:(O.P.stoodInHeld t||O.P.eqGuardType O.P.depth t) with
    | true=>rw [hc] at hv;exact (dF hv).elim
    | false=>
     rw [hc] at hv;simp only [yO] at hv;simp only [Bool.or_eq_false_iff] at hc;refine other ne (.ag ks) jR (fun r hr=>?_) hv;obtain ⟨p,q,e1,e2,h1⟩:=pA ks hk ha hc.1 r hr;refine ⟨h1,.inr hc.2,by rw [e1];simp,fun _=>?_⟩
     rw [e1,e2];exact ⟨fun e=>by subst e;rfl,fun e=>by subst e;rfl⟩
  unfold rZ at hv
  split at hv
  ·exact plain hv
  ·exact plain hv
  ·exact plain hv
  ·rename_i hu;refine other ne .b jR (fun r hr=>?_) hv;obtain ⟨p,q,e1,e2,h1⟩:=pB hu r hr;refine ⟨h1,.inl (by rw [e1];simp),by rw [e1];simp,fun _=>?_⟩
   rw [e1,e2];exact ⟨fun e=>by subst e;rfl,fun e=>by subst e;rfl⟩
  ·rename_i e hu;refine other ne .sl jR (fun r hr=>?_) hv;obtain ⟨p,n,c,q,n',c',e1,e2,h1⟩:=pS e hu r hr;refine ⟨h1,.inl (by rw [e1];simp),by rw [e1];simp,fun _=>?_⟩
   rw [e1,e2];exact ⟨fun e=>by subst e;rfl,fun e=>by subst e;rfl⟩
  ·rename_i ps rs vr hu;refine other ne .fn jR (fun r hr=>?_) hv;obtain ⟨⟨e1,e2⟩,h1⟩:=pF ps rs vr hu r hr;refine ⟨h1,.inl ?_,?_,fun _=>?_⟩
   ·rcases e1 with e1 | ⟨_,_,_,e1⟩<;>rw [e1]<;>simp
   ·rcases e1 with e1 | ⟨_,_,_,e1⟩<;>rw [e1]<;>simp
   ·rcases e1 with e1 | ⟨_,_,_,e1⟩<;>rcases e2 with e2 | ⟨_,_,_,e2⟩<;>rw [e1,e2]<;>exact ⟨fun e=>by subst e;rfl,fun e=>by subst e;rfl⟩
  ·rename_i fs hu;exact agg (by simp [dQ,hu]) hv
  ·rename_i k0 e hu;exact agg (by simp [dQ,hu]) hv
  ·exact (dF hv).elim
 cases op
 case eql=>exact eqs false (.inl ⟨rfl,rfl⟩) (by simpa only [bq,ho] using hv)
 case neq=>exact eqs true (.inr ⟨rfl,rfl⟩) (by simpa only [bq,ho] using hv)
 all_goals exact plain (by simpa only [bq,ho] using hv)
end
end
section
open Go
section
variable {O:bt} {H:Hint} {m:Mp} {S:Nat->Prop} {w:yj} {tm:Env} {a:Act} {hp:Hp} {ct:Nat}
def Ir {o:y8} {b:Builtin} {args:Array xy} {ts:Array yy} (ho:o.op= .call {callee:= .builtin b,args:=args,argTypes:=ts}):
  ∃cs,(execOp a.eval o).run O.P w=(builtin b ts o.type cs (args.map a.eval)).run O.P w:=by
 exact ⟨_,by simp only [execOp,ho,resolve,Sem.run_bind,Sem.run_pure,Result.andThen_ok,invoke];rfl⟩
def aj3 {o:y8} {c:Call} {k:Nat} {v:AV} (hH:fN O H) (ht:cd O m S w tm a.tmps) (hh:aX O m S w hp ct) (ho:o.op= .call c)
  (hv:bE tm hp (bq O.P H k o)=some v):Reads O m S w a o v:=by
 obtain ⟨callee,args,ts⟩:=c;simp only [bq,ho] at hv
 split at hv
 ·cases K6:H.mode k<;>simp [K6,bE] at hv
 ·rename_i _ b
  split at hv
  ·have key:∀{bb:Bool} {sz cG:Nat} {x y:X},bE tm hp (bif bb then .cX sz cG x y else bad)=some v->False:=by
    intro bb sz cG x y h
    cases bb
    ·exact dF h
    ·simp [bE] at h
   split at hv
   ·split at hv
    ·exact (key hv).elim
    ·simp_all
   ·split at hv
    ·exact (key hv).elim
    ·simp_all
   ·simp_all
  ·rename_i x t ib pZ;obtain ⟨al⟩:=args;obtain ⟨tl⟩:=ts;simp only at ib pZ;subst ib;subst pZ;obtain ⟨cs,gS⟩:=Ir (O:=O) (w:=w) (a:=a) ho;have fin:(∃u,(Builtin.len_ #[t] o.type #[a.eval x]).run O.P w= .ok u w/\aj O.ai m S w v u)->Reads O m S w a o v:=by
    rintro ⟨u,h1,h2⟩;refine ⟨u,?_,h2⟩;rw [gS];simp [builtin,h1]
   split at hv
   ·rename_i n e hu;simp only [bE,aA,yc] at hv;subst hv;exact fin ⟨_,by simp [Builtin.len_,run_underlying hu];rfl,by simp [aj,goInt]⟩
   ·rename_i hu;simp only [bE] at hv;exact fin (Ti hh (cF hH ht x) (.inl ⟨rfl,hu⟩) hv)
   ·rename_i e hu;simp only [bE] at hv;exact fin (Ti hh (cF hH ht x) (.inr (.inl ⟨rfl,e,hu⟩)) hv)
   ·rename_i kt e hu;simp only [bE] at hv;exact fin (Ti hh (cF hH ht x) (.inr (.inr ⟨rfl,kt,e,hu⟩)) hv)
   ·exact (dF hv).elim
  ·split at hv
   ·split at hv
    ·simp [bE] at hv
    ·exact (dF hv).elim
   ·exact (dF hv).elim
  ·simp only [bE] at hv;obtain ⟨cs,gS⟩:=Ir (O:=O) (w:=w) (a:=a) ho;have hl:=C0 hH ht args.toList
   cases hx:dC tm (ie H args.toList) with
   | nil=>simp [hx] at hv
   | cons c r=>
    simp only [hx] at hv;rw [hx] at hl;simp only [av] at hl;obtain ⟨u,us,h1,h2,h3⟩:=hl;obtain ⟨q,h4,h5⟩:=SI (O:=O) (g:=Builtin.min2) (fun va vb v x y hx hy h=>aod hx hy h) r us c v u h2 h3 hv;refine ⟨q,?_,h5⟩;rw [gS];simp [builtin,Builtin.min_,h1,h4]
  ·simp only [bE] at hv;obtain ⟨cs,gS⟩:=Ir (O:=O) (w:=w) (a:=a) ho;have hl:=C0 hH ht args.toList
   cases hx:dC tm (ie H args.toList) with
   | nil=>simp [hx] at hv
   | cons c r=>
    simp only [hx] at hv;rw [hx] at hl;simp only [av] at hl;obtain ⟨u,us,h1,h2,h3⟩:=hl;obtain ⟨q,h4,h5⟩:=SI (O:=O) (g:=Builtin.max2) (fun va vb v x y hx hy h=>aoe hx hy h) r us c v u h2 h3 hv;refine ⟨q,?_,h5⟩;rw [gS];simp [builtin,Builtin.max_,h1,h4]
  ·exact (dF hv).elim
 ·exact (dF hv).elim
def YF {kt:yy} {kk:Nat} {vk:AV} (hk:keyOf O.P kt=some kk) (h:qR kk vk=true):∃d,O.P.underlying kt=some d/\OH d=true/\fits d vk=true:=by
 unfold keyOf at hk
 split at hk
 ·rename_i hu;simp only [yc] at hk;subst hk;refine ⟨_,hu,rfl,?_⟩;cases vk<;>simp_all [qR,fits]
 ·rename_i hu;simp only [yc] at hk;subst hk;refine ⟨_,hu,rfl,?_⟩;cases vk<;>simp_all [qR,fits]
 ·rename_i hu;simp only [yc] at hk;subst hk;refine ⟨_,hu,rfl,?_⟩;cases vk<;>simp_all [qR,fits]
 ·cases hk
def aa6 {o:y8} {k:Nat} {v:AV} (hH:fN O H) (ht:cd O m S w tm a.tmps) (hh:aX O m S w hp ct)
  (hv:bE tm hp (bq O.P H k o)=some v):Reads O m S w a o v:=by
 cases ho:o.op with
 | call c=>exact aj3 hH ht hh ho hv
 | binOp op t x y ty=>exact alT hH ht ho hv
 | move x=>
  simp only [bq,ho,bE,yc] at hv;subst hv;exact ⟨_,by simp only [execOp,ho,Sem.run_pure],cF hH ht x⟩
 | assign x=>
  simp only [bq,ho,bE,yc] at hv;subst hv;exact ⟨_,by simp only [execOp,ho,Sem.run_pure],cF hH ht x⟩
 | pick c x y=>
  simp only [bq,ho,bE] at hv;have rc:=cF hH ht c;cases hc:aA tm (aS H c)<;>rw [hc] at hv<;>simp only [reduceCtorEq] at hv
  rename_i b;rw [hc] at rc;simp only [aj] at rc;simp only [yc] at hv;subst hv
  cases b with
  | true=>exact ⟨a.eval x,by simp [execOp,ho,rc,asBool],cF hH ht x⟩
  | false=>exact ⟨a.eval y,by simp [execOp,ho,rc,asBool],cF hH ht y⟩
 | load t x=>
  simp only [bq,ho] at hv
  split at hv
  ·rename_i s ag hz ha;simp only [bE] at hv;exact jY (by simp only [execOp,ho]) (atd hh hz ha (cF hH ht x) hv)
  ·exact (dF hv).elim
 | fieldAddr t x i=>
  simp only [bq,ho] at hv
  split at hv
  ·rename_i fs hu
   split at hv
   ·rename_i f hf
    split at hv
    ·rename_i s hz;simp only [bE] at hv;exact jY (by simp only [execOp,ho]) (aqr hu hf hz (cF hH ht x) hv)
    ·exact (dF hv).elim
   ·exact (dF hv).elim
  ·exact (dF hv).elim
 | field t x i=>
  simp only [bq,ho] at hv
  split at hv
  ·rename_i fs hu
   split at hv
   ·rename_i f hf
    split at hv
    ·rename_i s ag hz ha;simp only [bE] at hv;exact jY (by simp only [execOp,ho]) (aqs hu hf hz ha (cF hH ht x) hv)
    ·exact (dF hv).elim
   ·exact (dF hv).elim
  ·exact (dF hv).elim
 | nilCheck x=>
  simp only [bq,ho,bE] at hv;have rx:=cF hH ht x;cases hx:aA tm (aS H x)<;>rw [hx] at hv rx<;>simp only [reduceCtorEq,yc] at hv
  ·subst hv;have r':=rx;simp only [aj] at r';obtain ⟨p,_,e⟩:=r';exact ⟨a.eval x,by simp only [execOp,ho,e,Sem.run_pure],rx⟩
  ·subst hv;have r':=rx;simp only [aj] at r';obtain ⟨b,o',e,_⟩:=r';exact ⟨a.eval x,by simp only [execOp,ho,e,Sem.run_pure],rx⟩
  ·subst hv;rename_i f _ _
   cases f with
   | f g=>
    have r':=rx;simp only [aj] at r';obtain ⟨fi,ca,e,_⟩:=r';exact ⟨a.eval x,by simp only [execOp,ho,e,Sem.run_pure],rx⟩
   | y l=>
    have r':=rx;simp only [aj] at r';obtain ⟨p,_,e⟩:=r';exact ⟨a.eval x,by simp only [execOp,ho,e,Sem.run_pure],rx⟩
 | unOp op t x=>
  simp only [bq,ho,bE] at hv;exact jY (by simp only [execOp,ho]) (aoc (cF hH ht x) hv)
 | convert s d x=>
  simp only [bq,ho] at hv
  split at hv
  ·rename_i k1 k2 hs hd;simp only [bE] at hv;exact jY (by simp only [execOp,ho]) (Z8 hd (.inl ⟨_,hs⟩) (cF hH ht x) hv)
  ·rename_i k1 k2 hs hd;simp only [bE] at hv;exact jY (by simp only [execOp,ho]) (Z8 hd (.inr ⟨_,hs⟩) (cF hH ht x) hv)
  ·rename_i k1 k2 hs hd;simp only [bE] at hv;exact jY (by simp only [execOp,ho]) (Z9 hd (.inl ⟨_,hs⟩) (cF hH ht x) hv)
  ·rename_i k1 k2 hs hd;simp only [bE] at hv;exact jY (by simp only [execOp,ho]) (Z9 hd (.inr ⟨_,hs⟩) (cF hH ht x) hv)
  ·rename_i hs hd;simp only [bE] at hv;exact jY (by simp only [execOp,ho]) (alQ hd hs (cF hH ht x) hv)
  ·exact (dF hv).elim
 | makeFunc fn first cap=>
  cases fn with
  | func f=>
   simp only [bq,ho] at hv
   split at hv
   ·rename_i g hg;simp only [bE,yc] at hv;subst hv;refine ⟨.func (.func f) (first.map a.eval) (cap.map a.eval),by simp [execOp,ho,Instr.makeFunc],?_⟩;simp only [aj];exact ⟨_,_,by rw [hH f g hg],by simpa using C0 hH ht first.toList,by simpa using C0 hH ht cap.toList⟩
   ·exact (dF hv).elim
  | _=>simp only [bq,ho] at hv;exact (dF hv).elim
 | slice t x lo hi mx=>
  cases mx with
  | some q=>simp only [bq,ho] at hv;exact (dF hv).elim
  | none=>
   simp only [bq,ho] at hv
   split at hv
   ·rename_i hu;simp only [bE] at hv;exact jY (by simp only [execOp,ho];rfl) (aj1 hH ht hu (cF hH ht x) hv)
   ·rename_i e hu
    split at hv
    ·rename_i s hz;simp only [bE] at hv;exact jY (by simp only [execOp,ho];rfl) (alR hH ht hu hz hh (cF hH ht x) hv)
    ·exact (dF hv).elim
   ·split at hv
    ·simp only [bE] at hv;cases hx:aA tm (aS H x)<;>rw [hx] at hv<;>simp [fh] at hv
    ·exact (dF hv).elim
   ·exact (dF hv).elim
 | indexAddr t x i=>
  simp only [bq,ho] at hv
  split at hv
  ·rename_i e hu
   split at hv
   ·rename_i s hz;simp only [bE] at hv
    cases hk:dE (aA tm (aS H i)) with
    | none=>simp [hk] at hv
    | some j=>
     simp only [hk] at hv;exact jY (by simp only [execOp,ho]) (aqt hu hz (cF hH ht x) (cF hH ht i) hk hv)
   ·exact (dF hv).elim
  ·rename_i n e hu
   split at hv
   ·rename_i s hz;simp only [bE] at hv
    cases hk:dE (aA tm (aS H i)) with
    | none=>simp [hk] at hv
    | some j=>
     simp only [hk] at hv;exact jY (by simp only [execOp,ho]) (aqu hu hz (cF hH ht x) (cF hH ht i) hk hv)
   ·exact (dF hv).elim
  ·exact (dF hv).elim
 | index t x i=>
  simp only [bq,ho] at hv
  split at hv
  ·rename_i hu;simp only [bE] at hv
   cases hk:dE (aA tm (aS H i)) with
   | none=>simp [hk] at hv
   | some j=>
    simp only [hk] at hv;exact jY (by simp only [execOp,ho]) (aqw hu (cF hH ht x) (cF hH ht i) hk hv)
  ·rename_i n e hu
   split at hv
   ·rename_i s ag hz ha;simp only [bE] at hv
    cases hk:dE (aA tm (aS H i)) with
    | none=>simp [hk] at hv
    | some j=>
     simp only [hk] at hv;exact jY (by simp only [execOp,ho]) (aqv hu hz ha (cF hH ht x) (cF hH ht i) hk hv)
   ·exact (dF hv).elim
  ·exact (dF hv).elim
 | lookup t x i ok=>
  simp only [bq,ho] at hv
  split at hv
  ·rename_i kt e hu
   split at hv
   ·rename_i kk z sY hz;simp only [bE] at hv
    cases hf:qR kk (aA tm (aS H i)) with
    | false=>simp [hf] at hv
    | true=>
     simp only [hf,yz] at hv;obtain ⟨d,kK,fT,Wb⟩:=YF sY hf;obtain ⟨zv,lX,rfl⟩:=E7 (w:=w) hz
     cases hr:kW hp (aA tm (aS H i)) (aA tm (aS H x)) with
     | none=>simp [hr] at hv
     | some r=>
      refine jY (by simp only [execOp,ho]) (aqx (ok:=ok) (r:=r) (z:=eN zv) hh hu kK fT Wb lX (cF hH ht x) (cF hH ht i) (Nx zv) hr ?_);cases r<;>simpa [hr] using hv
   ·exact (dF hv).elim
  ·exact (dF hv).elim
 | extract x i=>
  simp only [bq,ho,bE] at hv;have rx:=cF hH ht x;cases hx:aA tm (aS H x)<;>rw [hx] at hv rx<;>simp only [reduceCtorEq] at hv
  simp only [aj] at rx;obtain ⟨xs,e,hr⟩:=rx;obtain ⟨u,h1,h2⟩:=Sg hr hv;refine ⟨u,?_,h2⟩;have B4:xs[i]? =some u:=by simpa using h1
  simp [execOp,ho,e,Instr.extract,B4]
 | build t parts=>
  simp only [bq,ho] at hv
  split at hv
  ·rename_i fs z hu hz
   split at hv
   ·rename_i pl au3;have fm:=run_places (P:=O.P) w fs.toList pl au3
    split at hv
    case h_2=>exact (dF hv).elim
    rename_i ps eW;simp only [bE] at hv
    cases hf:fill tm z ps with
    | none=>simp [hf] at hv
    | some cs=>
     simp only [hf,yc] at hv;subst hv;obtain ⟨zv,lX,jj⟩:=E7 (w:=w) hz;have Ax:av O.ai m S w z zv.cells.toList:=by
      have:=EN (ai:=O.ai) (m:=m) (S:=S) (w:=w) zv
      rw [<-jj] at this;exact this
     obtain ⟨out,h1,h2⟩:=Nz hH ht (place:=fun i=>pl[i]?) parts.toList ps z cs zv.cells eW Ax hf;refine ⟨.agg out,?_,by simp only [aj];exact ⟨out,rfl,h2⟩⟩
     have hm:(Array.mapM (fun f=>Functor.map (Prod.mk f.offset) (Go.sizeOf f.type)) fs:Sem (Array (Nat×Nat))).run O.P w= .ok pl.toArray w:=by
      rw [Array.mapM_eq_mapM_toList];simp [fm]
     simp [execOp,ho,Instr.build,lX,run_underlying hu,hm,h1]
   ·exact (dF hv).elim
  ·rename_i n e z hu hz
   split at hv
   ·rename_i s hs
    split at hv
    ·rename_i ps eW;simp only [bE] at hv
     cases hf:fill tm z ps with
     | none=>simp [hf] at hv
     | some cs=>
      simp only [hf,yc] at hv;subst hv;obtain ⟨zv,lX,jj⟩:=E7 (w:=w) hz;have Ax:av O.ai m S w z zv.cells.toList:=by
       have:=EN (ai:=O.ai) (m:=m) (S:=S) (w:=w) zv
       rw [<-jj] at this;exact this
      obtain ⟨out,h1,h2⟩:=Nz hH ht (place:=fun i=>some (i*s,s)) parts.toList ps z cs zv.cells eW Ax hf;refine ⟨.agg out,?_,by simp only [aj];exact ⟨out,rfl,h2⟩⟩
      simp [execOp,ho,Instr.build,lX,run_underlying hu,nV hs,h1]
    ·exact (dF hv).elim
   ·exact (dF hv).elim
  ·exact (dF hv).elim
 | alloc t=>simp only [bq,ho] at hv;split at hv<;>simp [bE,bad] at hv
 | box t x=>simp only [bq,ho] at hv;split at hv<;>simp [bE,bad] at hv
 | buildSlice t n parts=>
  simp only [bq,ho] at hv
  split at hv
  ·split at hv
   ·rename_i s z _ _
    cases hc:yE (n*s) 16777216 with
    | false=>rw [hc] at hv;exact (dF hv).elim
    | true=>
     rw [hc] at hv;simp only [yz] at hv
     split at hv
     ·simp [bE] at hv
     ·exact (dF hv).elim
   ·exact (dF hv).elim
  ·exact (dF hv).elim
 | makeMap t r=>
  cases r<;>simp only [bq,ho] at hv
  ·repeat' split at hv
   all_goals simp [bE,bad] at hv
  ·exact (dF hv).elim
 | makeSlice t l c=>
  simp only [bq,ho] at hv
  repeat' split at hv
  all_goals simp [bE,bad] at hv
 | insert t x k y=>
  simp only [bq,ho] at hv
  repeat' split at hv
  all_goals simp [bE,bad] at hv
 | mapUpdate t x k y=>
  simp only [bq,ho] at hv
  repeat' split at hv
  all_goals simp [bE,bad] at hv
 | store t x y=>simp only [bq,ho] at hv;split at hv<;>simp [bE,bad] at hv
 | range t x=>simp only [bq,ho] at hv;split at hv<;>simp [bE,bad] at hv
 | next x b=>cases b<;>simp [bq,ho,bE,bad] at hv
 | _=>simp [bq,ho,bE,bad] at hv
end
end
section
open Go
def fI (m:Mp) (id:Nat) (p:Pl):Mp:=fun i=>if i=id then some p else m i
def eE {m:Mp} {id:Nat} {p:Pl}:fI m id p id=some p:=by simp [fI]
def eD {m:Mp} {id i:Nat} {p:Pl} (h:i≠id):fI m id p i=m i:=by simp [fI,h]
section
variable {O:bt} {m:Mp} {S:Nat->Prop} {w:yj} {hp:Hp} {ct:Nat}
def dD (m m':Mp):Prop:=∀id p,m id=some p->m' id=some p
def dD.refl {m:Mp}:dD m m:=fun _ _ h=>h
def dD.trans {m m' K4:Mp} (h:dD m m') (k:dD m' K4):dD m K4:=fun id p hp=>k id p (h id p hp)
def kQ {i:Nat} (h:m i=none) {p:Pl}:dD m (fI m i p):=by
 intro id q hq;rw [eD]
 ·grind
 ·grind
def AY {tm:Env} {tmps:Array yf} {m':Mp} {S':Nat->Prop} {w':yj} (hm:∀id p,m id=some p->m' id=some p) (hS:∀b,S b->S' b) (hw:fX S w w')
  (h:cd O m S w tm tmps):cd O m' S' w' tm tmps:=fun i=>mi hm hS hw _ _ (h i)
def alloc_old {o:Go.Obj} {b:Nat} (hb:b<w.heap.size):(w.alloc o).heap[b]? =w.heap[b]? :=RowKit.Below.heap_alloc w o b hb
def rR {m':Mp} {S':Nat->Prop} {w':yj} {id:Nat} {o:Obj} (hm:∀id p,m id=some p->m' id=some p) (hS:∀b,S b->S' b) (hw:fX S w w') (hb:∀p,m id=some p->w'.heap[p.b]? =w.heap[p.b]?)
  (hn:∀p,m id=some p->S' p.b->S p.b) (h:fH O m S w id o):fH O m' S' w' id o:=by
 have rowAt:∀(cs:List AV) (b k:Nat),w'.heap[b]? =w.heap[b]? ->bT O.ai m S w cs b k->bT O.ai m' S' w' cs b k:=by
  intro cs
  induction cs with
  | nil=>intro b k _ _;simp only [bT]
  | cons c cs ih=>
   intro b k sZ hr;obtain ⟨⟨u,h1,h2⟩,h3⟩:=hr;exact ⟨⟨u,(Mu sZ).trans h1,mi hm hS hw _ _ h2⟩,ih b (k+1) sZ h3⟩
 cases o with
 | cells rw pu ex sz cs=>
  obtain ⟨p,arr,t,h1,h2,h3,h4,h5,h6,h7,h8,h9,iY⟩:=h;exact ⟨p,arr,t,hm _ _ h1,(hb p h1).trans h2,h3,h4,h5,h6,rowAt cs p.b p.o (hb p h1) h7,h8,fun hr hs=>h9 hr (hn p h1 hs),fun hr=>hS _ (iY hr)⟩
 | mp rw ks vs=>
  obtain ⟨p,es,clock,h1,h2,h3,h4,h5,h6⟩:=h;exact ⟨p,es,clock,hm _ _ h1,(hb p h1).trans h2,iA hm hS hw _ _ h3,iA hm hS hw _ _ h4,fun hr hs=>h5 hr (hn p h1 hs),fun hr=>hS _ (h6 hr)⟩
 | si s pos=>
  obtain ⟨p,t,h1,h2,h3,h4⟩:=h;exact ⟨p,t,hm _ _ h1,(hb p h1).trans h2,h3,fun hs=>h4 (hn p h1 hs)⟩
 | lp tm ps cK body st pe=>
  obtain ⟨p,l,hi,h1,h2,h3,h4,h5,h6,h7,h8⟩:=h;exact ⟨p,l,hi,hm _ _ h1,(hb p h1).trans h2,fun hs=>h3 (hn p h1 hs),h4,h5,h6,AY hm hS hw h7,h8⟩
def iB {id i:Nat} {o:Obj}:az ((id,o)::hp) i=if id=i then some o else az hp i:=by
 simp only [az]
 simp_all
def Iv (hh:aX O m S w hp ct) (g:Go.Obj):fX S w (w.alloc g):=fun b hb=>alloc_old (hh.slt b hb)
def jC:Obj->Obj->Prop
 | .cells rw pu ex sz cs,o'=>∃eQ,o'= .cells eQ pu ex sz cs/\(eQ=true->rw=true)
 | .mp rw ks vs,o'=>∃eQ,o'= .mp eQ ks vs/\(eQ=true->rw=true)
 | .si s pos,o'=>o'= .si s pos
 | .lp tm ps cK body st pe,o'=>o'= .lp tm ps cK body st pe
def jC.refl:∀o,jC o o
 | .cells rw _ _ _ _=>⟨rw,rfl,fun h=>h⟩
 | .mp rw _ _=>⟨rw,rfl,fun h=>h⟩
 | .si _ _=>rfl
 | .lp _ _ _ _ _ _=>rfl
def jC.trans {a b c:Obj} (h:jC a b) (k:jC b c):jC a c:=by
 cases a with
 | cells rw pu ex sz cs=>
  obtain ⟨r1,rfl,h1⟩:=h;obtain ⟨r2,rfl,h2⟩:=k;exact ⟨r2,rfl,fun h=>h1 (h2 h)⟩
 | mp rw ks vs=>
  obtain ⟨r1,rfl,h1⟩:=h;obtain ⟨r2,rfl,h2⟩:=k;exact ⟨r2,rfl,fun h=>h1 (h2 h)⟩
 | si s pos=>simp only [jC] at h;subst h;exact k
 | lp tm ps cK body st pe=>simp only [jC] at h;subst h;exact k
def de (hp ap:Hp):Prop:=∀id o,az hp id=some o->∃o',az ap id=some o'/\jC o o'
def de.refl {hp:Hp}:de hp hp:=fun _ o h=>⟨o,h,jC.refl o⟩
def de.trans {a b c:Hp} (h:de a b) (k:de b c):de a c:=fun id o ho=>
 let ⟨o1,h1,l1⟩:=h id o ho
 let ⟨o2,h2,l2⟩:=k id o1 h1
 ⟨o2,h2,l1.trans l2⟩
def ju:Obj->Prop
 | .cells rw _ _ _ _=>rw=false
 | .mp rw _ _=>rw=false
 | _=>False
def aa7 {ap:Hp} {bc:Nat} (hh:aX O m S w hp ct) (hl:de hp ap) (hd:∀id o p,az ap id=some o->m id=some p->∃o',az hp id=some o') (iv:ct<=bc) (au4:∀id o,az ap id=some o->id<bc):
  ∃S',aX O m S' w ap bc/\(∀b,S b->S' b)/\∀b,S' b->S b\/ek m hp b:=by
 refine ⟨fun b=>S b\/∃id p o,m id=some p/\p.b=b/\az ap id=some o/\ju o,?_,fun b h=> .inl h,?_⟩
 ·refine ⟨?_,fun id p h=>Nat.lt_of_lt_of_le (hh.lt id p h) iv,?_,?_,hh.blt,hh.low,hh.iH,hh.fY,au4⟩
  ·intro id o' p lF hm;obtain ⟨o,ho⟩:=hd id o' p lF hm;obtain ⟨o'',h1,h2⟩:=hl id o ho;rw [lF] at h1;injection h1 with h1
   subst h1;have h3:=hh.obj id o p ho hm;have hS:∀b,S b->(S b\/∃id p o,m id=some p/\p.b=b/\az ap id=some o/\ju o):=fun b h=> .inl h
   have oG:∀q,m id=some q->(∃id p o,m id=some p/\p.b=q.b/\az ap id=some o/\ju o)->ju o':=by
    rintro q hq ⟨j,pj,oj,Wc,hj2,hj3,hj4⟩;obtain ⟨K7,hj5⟩:=hd j oj pj hj3 Wc
    have:=hh.inj id j o K7 q pj ho hj5 hq Wc hj2.symm
    grind
   have aP:fX S w w:=fun _ _=>rfl
   cases o with
   | cells rw pu ex sz cs=>
    obtain ⟨eQ,rfl,oH⟩:=h2;obtain ⟨q,arr,t,h1,h2,h3,h4,h5,h6,h7,h8,h9,iY⟩:=h3;refine ⟨q,arr,t,h1,h2,h3,h4,h5,h6,?_,h8,?_,?_⟩
    ·clear h4 h6 h8;revert h7;generalize q.o=k
     induction cs generalizing k with
     | nil=>intro _;simp only [bT]
     | cons c cs ih=>
      intro hr;simp only [bT] at hr ⊢;obtain ⟨⟨u,g1,g2⟩,g3⟩:=hr
      exact ⟨⟨u,g1,mi (fun _ _ h=>h) hS aP _ _ g2⟩,by
       have D9:∀(cs:List AV) (b k:Nat),bT O.ai m S w cs b k->bT O.ai m (fun b=>S b\/∃id p o,m id=some p/\p.b=b/\az ap id=some o/\ju o) w cs b k:=by
        intro cs
        induction cs with
        | nil=>intro b k _;simp only [bT]
        | cons c cs ih=>
         intro b k hr;simp only [bT] at hr ⊢;obtain ⟨⟨u,g1,g2⟩,g3⟩:=hr;exact ⟨⟨u,g1,mi (fun _ _ h=>h) hS aP _ _ g2⟩,ih b (k+1) g3⟩
       exact D9 _ _ _ g3⟩
    ·rintro hr (hs | hs)
     ·grind
     ·have:=oG q h1 hs
      simp only [ju] at this
      grind
    ·intro hr;exact .inr ⟨id,q,_,h1,rfl,lF,hr⟩
   | mp rw ks vs=>
    obtain ⟨eQ,rfl,oH⟩:=h2;obtain ⟨q,es,clock,h1,h2,h3,h4,h5,h6⟩:=h3;refine ⟨q,es,clock,h1,h2,iA (fun _ _ h=>h) hS aP _ _ h3,iA (fun _ _ h=>h) hS aP _ _ h4,?_,?_⟩
    ·rintro hr (hs | hs)
     ·grind
     ·have:=oG q h1 hs
      simp only [ju] at this
      grind
    ·intro hr;exact .inr ⟨id,q,_,h1,rfl,lF,hr⟩
   | si s pos=>
    simp only [jC] at h2;subst h2;refine rR (fun _ _ h=>h) hS aP (fun _ _=>rfl) (fun q hq hs=>?_) h3;rcases hs with hs | hs
    ·grind
    ·exact (oG q hq hs).elim
   | lp tm ps cK body st pe=>
    simp only [jC] at h2;subst h2;refine rR (fun _ _ h=>h) hS aP (fun _ _=>rfl) (fun q hq hs=>?_) h3;rcases hs with hs | hs
    ·grind
    ·exact (oG q hq hs).elim
  ·intro i j oi oj pi pj hi hj bN gK e;obtain ⟨K8,bL⟩:=hd i oi pi hi bN;obtain ⟨K7,GF⟩:=hd j oj pj hj gK;exact hh.inj i j K8 K7 pi pj bL GF bN gK e
  ·rintro b (hb | ⟨id,p,o,h1,rfl,_,_⟩)
   ·exact hh.slt b hb
   ·exact hh.blt id p h1
 ·rintro b (hb | ⟨id,p,o,h1,rfl,h3,_⟩)
  ·exact .inl hb
  ·obtain ⟨o',lF⟩:=hd id o p h3 h1;exact .inr ⟨id,o',p,lF,h1,rfl⟩
def aab {i:Nat} (hh:aX O m S w hp ct) (hi:m i=none) (GG:i<ct) {g:Go.Obj} {p:Pl} (hb:p.b=w.heap.size)
  (hf:∀o,az hp i=some o->(fH O (fI m i p) S (w.alloc g) i o/\¬ju o)\/
   (ju o/\fH O (fI m i p) (fun b=>S b\/b=w.heap.size) (w.alloc g) i o)):
  ∃S',aX O (fI m i p) S' (w.alloc g) hp ct/\(∀b,S b->S' b)/\∀b,S' b->S b\/b=w.heap.size:=by
 have eV:(w.alloc g).heap.size=w.heap.size+1:=by simp
 have bj:O.w0.heap.size<=w.heap.size:=hh.fY;have gen:∀S':Nat->Prop,(∀b,S b->S' b)->(∀b,S' b->S b\/b=w.heap.size)->(∀o,az hp i=some o->fH O (fI m i p) S' (w.alloc g) i o)->aX O (fI m i p) S' (w.alloc g) hp ct:=by
  intro S' h1 h2 h3;have K9:∀id q,m id=some q->¬q.b=w.heap.size:=fun id q hq=>by have:=hh.blt id q hq;omega
  refine ⟨?_,?_,?_,?_,?_,?_,?_,?_,hh.a7⟩
  ·intro id o q ho hm;by_cases hc:id=i
   ·grind
   ·rw [eD hc] at hm;refine rR (kQ hi) h1 (Iv hh g) (fun q' bK=>alloc_old (hh.blt id q' bK)) (fun q' bK hs=>?_) (hh.obj id o q ho hm)
    grind
  ·intro id q hm;by_cases hc:id=i
   ·grind
   ·rw [eD hc] at hm;exact hh.lt id q hm
  ·intro a b oa ob pa pb ha cR Eb z8 e;by_cases ca:a=i
   ·by_cases cb:b=i
    ·grind
    ·subst ca;rw [eE] at Eb;rw [eD cb] at z8
     grind
   ·rw [eD ca] at Eb;by_cases cb:b=i
    ·subst cb;rw [eE] at z8
     grind
    ·rw [eD cb] at z8;exact hh.inj a b oa ob pa pb ha cR Eb z8 e
  ·intro b hs;rcases h2 b hs with h | h
   ·have:=hh.slt b h;omega
   ·omega
  ·intro id q hm;by_cases hc:id=i
   ·subst hc;rw [eE] at hm
    grind
   ·rw [eD hc] at hm
    have:=hh.blt id q hm
    omega
  ·intro id q hm;by_cases hc:id=i
   ·subst hc;rw [eE] at hm
    grind
   ·rw [eD hc] at hm;exact hh.low id q hm
  ·intro b sZ;exact (alloc_old (by omega)).trans (hh.iH b sZ)
  ·omega
 cases ho:az hp i with
 | none=>exact ⟨S,gen S (fun _ h=>h) (fun _ h=> .inl h) (fun o h=>by rw [ho] at h;cases h),fun _ h=>h,fun _ h=> .inl h⟩
 | some o=>
  rcases hf o ho with ⟨h1,_⟩ | ⟨_,h1⟩
  ·exact ⟨S,gen S (fun _ h=>h) (fun _ h=> .inl h) (fun o' h=>by rw [ho] at h;injection h with h;subst h;exact h1),fun _ h=>h,fun _ h=> .inl h⟩
  ·exact ⟨_,gen (fun b=>S b\/b=w.heap.size) (fun _ h=> .inl h) (fun _ h=>h) (fun o' h=>by rw [ho] at h;injection h with h;subst h;exact h1),fun _ h=> .inl h,fun _ h=>h⟩
def Yk {id:Nat} {o o':Obj} {p:Pl} (hl:jC o o') (hm:m id=some p) (h:fH O m S w id o) (hn:¬ju o):
  (fH O m S w id o'/\¬ju o')\/(ju o'/\fH O m (fun b=>S b\/b=p.b) w id o'):=by
 have hS:∀b,S b->(S b\/b=p.b):=fun _ h=> .inl h
 have aP:fX S w w:=fun _ _=>rfl
 cases o with
 | cells rw pu ex sz cs=>
  obtain ⟨eQ,rfl,oH⟩:=hl
  cases eQ with
  | true=>
   grind
  | false=>
   refine .inr ⟨rfl,?_⟩;obtain ⟨q,arr,t,h1,h2,h3,h4,h5,h6,h7,h8,h9,iY⟩:=h;rw [hm] at h1;injection h1 with h1
   subst h1;have D9:∀(cs:List AV) (b k:Nat),bT O.ai m S w cs b k->bT O.ai m (fun b=>S b\/b=p.b) w cs b k:=by
    intro cs
    induction cs with
    | nil=>intro b k _;simp only [bT]
    | cons c cs ih=>
     intro b k hr;obtain ⟨⟨u,g1,g2⟩,g3⟩:=hr;exact ⟨⟨u,g1,mi (fun _ _ h=>h) hS aP _ _ g2⟩,ih b (k+1) g3⟩
   exact ⟨p,arr,t,hm,h2,h3,h4,h5,h6,D9 _ _ _ h7,h8,by simp,fun _=> .inr rfl⟩
 | mp rw ks vs=>
  obtain ⟨eQ,rfl,oH⟩:=hl
  cases eQ with
  | true=>
   grind
  | false=>
   refine .inr ⟨rfl,?_⟩;obtain ⟨q,es,clock,h1,h2,h3,h4,h5,h6⟩:=h;rw [hm] at h1;injection h1 with h1
   subst h1;exact ⟨p,es,clock,hm,h2,iA (fun _ _ h=>h) hS aP _ _ h3,iA (fun _ _ h=>h) hS aP _ _ h4,by simp,fun _=> .inr rfl⟩
 | si s pos=>simp only [jC] at hl;subst hl;exact .inl ⟨h,hn⟩
 | lp tm ps cK body st pe=>simp only [jC] at hl;subst hl;exact .inl ⟨h,hn⟩
end
end
section
open Go
section
variable {O:bt} {H:Hint} {m:Mp} {S:Nat->Prop} {w:yj} {tm:Env} {a:Act} {hp:Hp} {ct cq:Nat}
def RO {ai:Nat->Nat} {b:Nat} {arr:Array yf} {t:yy} {fr:Nat×Nat} (hb:w.heap[b]? =some (.cells arr t fr)):∀(cs:List AV) (us:List yf) (o:Nat),
  av ai m S w cs us->(∀(j:Nat) (u:yf),us[j]? =some u->arr[o+j]? =some u)->bT ai m S w cs b o
 | [],us,o,_,_=>by simp only [bT]
 | c::cs,us,o,h,hu=>by
  simp only [av] at h;obtain ⟨u,r,rfl,h2,h3⟩:=h;simp only [bT];refine ⟨⟨u,?_,h2⟩,RO hb cs r (o+1) h3 (fun j v hv=>?_)⟩
  ·have:=hu 0 u (by simp)
   simpa [World.cell?,hb] using this
  ·have:=hu (j+1) v (by simpa using hv)
   rw [show o+1+j=o+(j+1) by omega];exact this
def aof (hh:aX O m S w hp cq) {i:Nat} {arr:Array yf} {t:yy} {cs:List AV} {us:List yf} {pu ex:Bool} {sz:Nat} (hr:av O.ai m S w cs us)
  (hu:∀(j:Nat) (u:yf),us[j]? =some u->arr[j]? =some u) (hl:cs.length<=arr.size) (hex:ex=true->cs.length=arr.size) (iX:pu=true->aH cs=true)
  (m':Mp) (hm:dD m m') (hi:m' i=some ⟨w.heap.size,0,arr.size,sz⟩):fH O m' S (w.alloc (.cells arr t)) i (.cells true pu ex sz cs):=by
 refine ⟨⟨w.heap.size,0,arr.size,sz⟩,arr,t,hi,heap_alloc_new w _,rfl,hl,by simp,hex,?_,iX,?_,by simp⟩
 ·exact RO (heap_alloc_new w _) cs us 0 (iA hm (fun _ h=>h) (Iv hh _) _ _ hr) (by simpa using hu)
 ·intro _ hS
  have:=hh.slt _ hS
  simp at this
def Du (O:bt) (m:Mp) (S:Nat->Prop) (w:yj) (a:Act) (ct:Nat) (o:y8) (v:AV) (b:Obj):Prop:=
 ∃u g p,(execOp a.eval o).run O.P w= .ok (.value u) (w.alloc g)/\p.b=w.heap.size/\¬ju b/\
  ∀m',dD m m'->m' ct=some p->fH O m' S (w.alloc g) ct b/\aj O.ai m' S (w.alloc g) v u
def RP {o:y8} {arr:Array yf} {t:yy} {cs:List AV} {us:List yf} {pu ex:Bool} {sz:Nat} {v:AV} {u:yf} (hh:aX O m S w hp cq)
  (he:(execOp a.eval o).run O.P w= .ok (.value u) (w.alloc (.cells arr t))) (hr:av O.ai m S w cs us)
  (hu:∀(j:Nat) (u:yf),us[j]? =some u->arr[j]? =some u) (hl:cs.length<=arr.size) (hex:ex=true->cs.length=arr.size) (iX:pu=true->aH cs=true)
  (hv:∀m':Mp,m' ct=some ⟨w.heap.size,0,arr.size,sz⟩->aj O.ai m' S (w.alloc (.cells arr t)) v u):Du O m S w a ct o v (.cells true pu ex sz cs):=
 ⟨u,_,⟨w.heap.size,0,arr.size,sz⟩,he,rfl,by simp [ju],fun m' hm hi=>⟨aof hh hr hu hl hex iX m' hm hi,hv m' hi⟩⟩
def aac {o:y8} {t:yy} {x:yf} {vx v:AV} {b:Obj} {sz:Nat} (hh:aX O m S w hp cq) (he:(execOp a.eval o).run O.P w= .ok (.value (.pointer (some ⟨w.heap.size,0,none⟩))) (w.alloc (.cells x.cells t))) (hx:av O.ai m S w (cellsOf vx) x.cells.toList)
  (hv:(bif yv (cellsOf vx).length sz&&bO (cellsOf vx) then some (AV.ptr ct 0,Obj.cells true (aH (cellsOf vx)) true sz (cellsOf vx)) else none)=some (v,b)):Du O m S w a ct o v b:=by
 cases hc:(yv (cellsOf vx).length sz&&bO (cellsOf vx)) with
 | false=>rw [hc] at hv;cases hv
 | true=>
  rw [hc] at hv;obtain ⟨rfl,rfl⟩:=hv;have hlen:=jc _ _ hx;refine RP hh he hx (fun j u hj=>by simpa using hj) (by rw [<-hlen];simp) (fun _=>by rw [<-hlen];simp) (fun h=>h) (fun m' hi=>?_)
  simp only [aj];exact ⟨_,hi,by simp⟩
def alU {o:y8} {t:yy} {r:Option xy} (hh:aX O m S w hp cq) (ho:o.op= .makeMap t r) (hr:r=none):Du O m S w a ct o (.map ct) (.mp true [] []):=by
 subst hr;refine ⟨.map (some w.heap.size),.map #[] 0,⟨w.heap.size,0,0,0⟩,by simp [execOp,ho,Instr.makeMap],rfl,by simp [ju],fun m' _ hi=>⟨?_,?_⟩⟩
 ·refine ⟨_,#[],0,hi,heap_alloc_new w _,by simp [av],by simp [av],?_,by simp⟩;intro _ hS
  have:=hh.slt _ hS
  simp at this
 ·simp only [aj];exact ⟨_,hi,rfl⟩
def aj4 {o:y8} {t:yy} {x:xy} {s:List Nat} (hh:aX O m S w hp cq) (ho:o.op= .range t x) (hu:O.P.underlying t=some .string) (hx:aj O.ai m S w (.str s) (a.eval x)):
  Du O m S w a ct o (.it ct) (.si s 0):=by
 obtain ⟨b,e,rfl⟩:=hx;refine ⟨.pointer (some ⟨w.heap.size,0,none⟩),.stringIter b 0,⟨w.heap.size,0,0,0⟩,by simp [execOp,ho,Instr.range,run_underlying hu,e],rfl,by simp [ju],fun m' _ hi=>⟨?_,?_⟩⟩
 ·refine ⟨_,b,hi,heap_alloc_new w _,rfl,?_⟩;intro hS
  have:=hh.slt _ hS
  simp at this
 ·simp only [aj];exact ⟨_,hi,rfl⟩
end
def aj5 (zero:Array yf):(wS zero.size).map (fun j=>zero[j]!)=zero.toList:=by
 apply List.ext_getElem
 ·simp
 ·grind
def YG (zero:Array yf):∀n:Nat,(wS (n*zero.size)).map (fun i=>zero[i%zero.size]!)=(yG n zero.toList).flatten
 | 0=>by simp
 | n+1=>by
  rw [xH,ybz,List.range_add,List.map_append,YG zero n,List.replicate_succ',uM]
  congr 1
  simp only [List.map_map,xT,List.flatten_nil,List.append_nil];rw [<-aj5 zero];apply List.map_congr_left;intro j hj;simp at hj;simp [Function.comp,xC n,Nat.mod_eq_of_lt hj]
def Si {ai:Nat->Nat} {m:Mp} {S:Nat->Prop} {w:yj} {cs:List AV} {us:List yf} (h:av ai m S w cs us):∀n,av ai m S w (yG n cs).flatten (yG n us).flatten
 | 0=>by simp [av]
 | n+1=>by rw [wV,wV,xT,xT];exact mg h (Si h n)
section
variable {O:bt} {H:Hint} {m:Mp} {S:Nat->Prop} {w:yj} {tm:Env} {a:Act} {hp:Hp} {ct cq:Nat}
def Zo (zero:Array yf) (n:Nat):(Array.map (fun i=>zero[i%zero.size]!) (uh (n*zero.size))).toList=(yG n zero.toList).flatten:=by
 rw [<-YG zero n]
 simp
def aad (tm:Env):∀(ps:List (Nat×Nat×X)) (zero cs:List AV),fill tm zero ps=some cs->cs.length=zero.length
 | [],zero,cs,h=>by simp only [fill,yc] at h;rw [h]
 | (o,sz,x)::r,zero,cs,h=>by
  simp only [fill] at h
  cases hc:(yv (cellsOf (aA tm x)).length sz&&yE (o+sz) zero.length&&bO (cellsOf (aA tm x))) with
  | false=>rw [hc] at h;cases h
  | true=>
   rw [hc] at h;simp only [ye] at hc;have h1:=yo hc.1.1;have h2:=yu hc.1.2;rw [aad tm r _ _ h];simp only [over,List.length_append,yQ,wi];omega
def M7 {α:Type} (l:List α):∀n,(yG n l).flatten.length=n*l.length
 | 0=>by simp
 | n+1=>by simp [wV,M7 l n,xH,Nat.add_comm]
def aj6 {o:y8} {t e:yy} {n s:Nat} {z:AV} {parts:Array (Nat×xy)} {ps:List (Nat×Nat×X)} {v:AV} {b:Obj} (hH:fN O H) (ht:cd O m S w tm a.tmps) (hh:aX O m S w hp cq)
  (ho:o.op= .buildSlice t n parts) (hu:O.P.underlying t=some (.slice e)) (hs:cL O.P e=some s) (hz:nv O.P e=some z) (hn:n*s<=16777216)
  (eW:partsOf H (fun i=>some (i*s,s)) parts.toList=some ps)
  (hv:cT tm hp ct (.bI n s (yG n (cellsOf z)).flatten ps)=some (v,b)):Du O m S w a ct o v b:=by
 simp only [cT] at hv
 cases hf:fill tm (yG n (cellsOf z)).flatten ps with
 | none=>simp [hf] at hv
 | some cs=>
  simp only [hf] at hv
  cases hc:yv cs.length (n*s) with
  | false=>rw [hc] at hv;cases hv
  | true=>
   rw [hc] at hv;simp only [yz,yc,yq] at hv;obtain ⟨rfl,rfl⟩:=hv;have hlen:=yo hc;obtain ⟨zv,lX,rfl⟩:=E7 (w:=w) hz;have Ax:av O.ai m S w (cellsOf (eN zv)) zv.cells.toList:=EN zv;have Ay:=jc _ _ Ax;have za:=aad tm ps _ _ hf;rw [M7] at za;have GH:n*s=n*zv.cells.size:=by
    rw [<-hlen,za,<-Ay];simp
   have key:∃zr:Array yf,(n*s=0->zr=#[])/\(n*s≠0->zr=zv.cells)/\av O.ai m S w (yG n (cellsOf (eN zv))).flatten ((uh (n*s)).map (fun x=>zr[x%zr.size]!)).toList:=by
    by_cases h0:n*s=0
    ·refine ⟨#[],fun _=>rfl,fun h=>(h h0).elim,?_⟩
     have:(yG n (cellsOf (eN zv))).flatten=[]:=by
      apply List.eq_nil_of_length_eq_zero;rw [M7,<-Ay];simp only [Array.length_toList];omega
     rw [this];simp [av,h0]
    ·refine ⟨zv.cells,fun h=>(h0 h).elim,fun _=>rfl,?_⟩;rw [GH,Zo];exact Si Ax n
   obtain ⟨zr,We,nO,Az⟩:=key;obtain ⟨out,h1,h2⟩:=Nz hH ht (place:=fun i=>some (i*s,s)) parts.toList ps _ cs _ eW Az hf;have sX:=jc _ _ h2
   refine RP (arr:=out) (t:=e) (us:=out.toList) hh ?_ h2 (fun j u hj=>by simpa using hj) (by rw [<-sX];simp) (fun _=>by rw [<-sX];simp) (fun h=>h) (u:= .slice (some ⟨w.heap.size,0,none⟩) n n) ?_
   ·have gW:¬(n*s>2^24):=by omega
    by_cases h0:n*s=0
    ·have:=We h0
     subst this;simp only [h0] at h1;simp [execOp,ho,Instr.buildSlice,run_underlying hu,nV hs,h0,newRow] at h1 ⊢;simp [h1]
    ·have:=nO h0
     subst this;simp [execOp,ho,Instr.buildSlice,run_underlying hu,nV hs,h0,gW,lX,newRow] at h1 ⊢;simp [h1]
   ·intro m' hi;simp only [aj];refine ⟨_,n,hi,by simp,Nat.le_refl _,?_⟩;simp only [Nat.zero_add];rw [<-hlen,<-sX];simp
def EO:∀{a b:List AV},aH a=true->aH b=true->aH (a++b)=true
 | [],_,_,h=>h
 | c::r,b,h,k=>by
  simp only [aH,ye] at h;simp only [xu,aH,ye];exact ⟨h.1,EO h.2 k⟩
def Zp {z:List AV} (h:aH z=true):∀n,aH (yG n z).flatten=true
 | 0=>by simp [aH]
 | n+1=>by rw [wV,xT];exact EO h (Zp h n)
def alV {o:y8} {t e:yy} {s cG:Nat} {z:AV} {l c:xy} {v:AV} {b:Obj} (hH:fN O H) (ht:cd O m S w tm a.tmps) (hh:aX O m S w hp cq)
  (ho:o.op= .makeSlice t l c) (hu:O.P.underlying t=some (.slice e)) (hs:cL O.P e=some s) (hb:B0 O.P e=some cG) (hz:nv O.P e=some z)
  (hv:cT tm hp ct (.gU s cG (cellsOf z) (aS H l) (aS H c))=some (v,b)):Du O m S w a ct o v b:=by
 simp only [cT] at hv
 cases hl:dE (aA tm (aS H l)) with
 | none=>simp [hl] at hv
 | some ln=>
  cases hc:dE (aA tm (aS H c)) with
  | none=>simp [hl,hc] at hv
  | some cn=>
   simp only [hl,hc] at hv
   cases hk:(yE ln cn&&(yE cn room&&(yE (cn*cG) room&&(yv (cellsOf z).length s&&bO (cellsOf z))))) with
   | false=>rw [hk] at hv;cases hv
   | true=>
    rw [hk] at hv;simp only [yz,yc,yq] at hv;obtain ⟨rfl,rfl⟩:=hv;simp only [ye] at hk;have h1:=yu hk.1;have h2:=yu hk.2.1;have h3:=yu hk.2.2.1;have h4:=yo hk.2.2.2.1;simp only [room] at h2 h3;obtain ⟨kl,el⟩:=zH (cF hH ht l) hl;obtain ⟨kc,ec⟩:=zH (cF hH ht c) hc;obtain ⟨zv,lX,rfl⟩:=E7 (w:=w) hz;have Ax:av O.ai m S w (cellsOf (eN zv)) zv.cells.toList:=EN zv;have Ay:=jc _ _ Ax;have La:zv.cells.size=s:=by rw [<-h4,<-Ay];simp
    have wrapN:∀k:Nat,k<=1099511627776->IntKind.i64.wrap (k:Int)=k:=fun k hk=>IntWalk.i64_in _ (by omega)
    obtain ⟨ti,AA,eV,Wf⟩:∃ti,O.P.info? e=some ti/\ti.size=s/\ti.bytes=cG:=by
     unfold cL at hs;unfold B0 at hb
     cases hi:O.P.info? e with
     | none=>simp [hi] at hs
     | some ti=>simp only [hi,yc] at hs hb;exact ⟨ti,rfl,hs,hb⟩
    have DD:((uh (cn*s)).map (zv.cells[·%zv.cells.size]!)).toList=(yG ln zv.cells.toList).flatten++(yG (cn-ln) zv.cells.toList).flatten:=by
     rw [<-La,Zo,<-uM,List.replicate_append_replicate]
     grind
    have lG:(yG ln (cellsOf (eN zv))).flatten.length=ln*s:=by rw [M7,h4]
    have hmul:ln*s<=cn*s:=Nat.mul_le_mul_right _ h1
    refine RP (arr:=(uh (cn*s)).map (zv.cells[·%zv.cells.size]!)) (t:=e) (us:=(yG ln zv.cells.toList).flatten) hh (u:= .slice (some ⟨w.heap.size,0,none⟩) ln cn) ?_
     (Si Ax ln) ?_ ?_ ?_ (fun h=>?_) ?_
    ·have aBh:cG*cn<=1099511627776:=by rw [xC];exact h3
     have zb:((cG*cn:Nat):Int)<=1099511627776:=by omega
     rw [Int.natCast_mul] at zb;have hlc:(ln:Int)<=(cn:Int):=by omega
     have g1:¬(281474976710656<(cG:Int)*(cn:Int)):=by omega
     have g2:¬(((ln:Int)<0)):=by omega
     have g3:¬(((cn:Int)<0)):=by omega
     have g4:¬((ln:Int)>(cn:Int)):=by omega
     by_cases h0:cn*s=0
     ·simp [execOp,ho,Instr.makeSlice,run_underlying hu,el,ec,asInt,asIntOf,typeInfo,AA,Wf,wrapN ln (by omega),wrapN cn h2,g1,g2,g3,g4,nV hs,h0,newRow,askRoom,roomBytes]
      grind
     ·simp [execOp,ho,Instr.makeSlice,run_underlying hu,el,ec,asInt,asIntOf,typeInfo,AA,Wf,wrapN ln (by omega),wrapN cn h2,g1,g2,g3,g4,nV hs,h0,newRow,askRoom,roomBytes,lX]
    ·intro j u hj
     have:((uh (cn*s)).map (zv.cells[·%zv.cells.size]!)).toList[j]? =some u:=by
      grind
     grind
    ·grind
    ·simp_all
    ·exact Zp h ln
    ·intro m' hi;simp only [aj];refine ⟨_,cn,hi,by simp,h1,?_⟩
     simp
def aog {o:y8} {k:Nat} {v:AV} {b:Obj} (hH:fN O H) (ht:cd O m S w tm a.tmps) (hh:aX O m S w hp cq)
  (hv:cT tm hp ct (bq O.P H k o)=some (v,b)):Du O m S w a ct o v b:=by
 cases ho:o.op with
 | call c=>
  obtain ⟨callee,args,ts⟩:=c;simp only [bq,ho] at hv
  repeat' split at hv
  all_goals first
   | (simp [cT,bad] at hv;done)
   | (revert hv;generalize yv _ _=bb;intro hv;cases bb<;>simp [cT,bad] at hv)
 | alloc t=>
  simp only [bq,ho] at hv
  split at hv
  ·rename_i s z hs hz;obtain ⟨zv,lX,rfl⟩:=E7 (w:=w) hz
   exact aac (x:=zv) (t:=t) hh (by simp [execOp,ho,Instr.alloc,lX,newVar,newRow]) (EN zv) (by simpa only [cT,aA] using hv)
  ·simp [cT,bad] at hv
 | box t x=>
  simp only [bq,ho] at hv
  split at hv
  ·rename_i s hs;simp only [cT] at hv
   cases hc:(yv (cellsOf (aA tm (aS H x))).length s&&bO (cellsOf (aA tm (aS H x)))) with
   | false=>rw [hc] at hv;cases hv
   | true=>
    have h1:=hc;simp only [ye] at h1
    exact aac (x:=a.eval x) (t:=t) hh (by simp [execOp,ho,Instr.box,newVar,newRow]) (RN (cF hH ht x) h1.2) hv
  ·simp [cT,bad] at hv
 | buildSlice t n parts=>
  simp only [bq,ho] at hv
  split at hv
  ·rename_i e hu
   split at hv
   ·rename_i s z hs hz
    cases hc:yE (n*s) 16777216 with
    | false=>rw [hc] at hv;simp [cT,bad] at hv
    | true=>
     rw [hc] at hv;simp only [yz] at hv
     split at hv
     ·rename_i ps eW;exact aj6 hH ht hh ho hu hs hz (yu hc) eW hv
     ·simp [cT,bad] at hv
   ·simp [cT,bad] at hv
  ·simp [cT,bad] at hv
 | makeSlice t l c=>
  simp only [bq,ho] at hv
  split at hv
  ·rename_i e hu
   split at hv
   ·rename_i s cG z hs hb hz
    exact alV hH ht hh ho hu hs hb hz hv
   ·simp [cT,bad] at hv
  ·simp [cT,bad] at hv
 | makeMap t r=>
  cases r with
  | some x=>simp [bq,ho,cT,bad] at hv
  | none=>
   simp only [bq,ho] at hv
   repeat' split at hv
   all_goals first
    | (simp [cT,bad] at hv;done)
    | (
      simp only [cT,yc,yq] at hv;obtain ⟨rfl,rfl⟩:=hv
      exact alU hh ho rfl)
 | range t x=>
  simp only [bq,ho] at hv
  split at hv
  ·rename_i hu;simp only [cT] at hv;have rx:=cF hH ht x;cases hx:aA tm (aS H x)<;>rw [hx] at hv rx<;>simp only [reduceCtorEq] at hv
   simp only [yc,yq] at hv;obtain ⟨rfl,rfl⟩:=hv;exact aj4 hh ho hu rx
  ·simp [cT,bad] at hv
 | next x b=>cases b<;>simp [bq,ho,cT,bad] at hv
 | binOp op t x y ty=>
  cases op<;>simp only [bq,ho,rZ,zG] at hv
  case eql=>
        repeat' split at hv
        all_goals first
         | (simp [cT,bad] at hv;done)
         | (cases hb:(O.P.stoodInHeld t||O.P.eqGuardType O.P.depth t)<;>rw [hb] at hv<;>simp [cT,bad] at hv)
  case neq=>
        repeat' split at hv
        all_goals first
         | (simp [cT,bad] at hv;done)
         | (cases hb:(O.P.stoodInHeld t||O.P.eqGuardType O.P.depth t)<;>rw [hb] at hv<;>simp [cT,bad] at hv)
  all_goals simp [cT] at hv
 | _=>
  simp only [bq,ho] at hv
  (repeat' split at hv)
  all_goals first
   | contradiction
   | (simp [cT,bad] at hv;done)
end
end
section
open Go
def rS {hp:Hp} {id i:Nat} {o:Obj}:az (bg hp id o) i=if id=i then (if (az hp id).isSome then some o else none) else az hp i:=by
 induction hp with
 | nil=>simp [bg,az]
 | cons x r ih=>
  obtain ⟨j,q⟩:=x;simp only [bg];by_cases hj:j=id
  ·subst hj;simp only [vm,yz,az];by_cases hi:j=i
   ·simp_all
   ·have:yv j i=false:=by
     cases hq:yv j i with
     | false=>rfl
     | true=>exact absurd (yo hq) hi
    grind
  ·have hb:yv j id=false:=by
    cases hq:yv j id with
    | false=>rfl
    | true=>exact absurd (yo hq) hj
   simp only [hb,yO];rw [show az ((j,q)::bg r id o) i=bif yv j i then some q else az (bg r id o) i from rfl,ih];by_cases hi:j=i
   ·subst hi
    have:¬id=j:=fun h=>hj h.symm
    simp [vm,this,az]
   ·have zb:yv j i=false:=by
     cases hq:yv j i with
     | false=>rfl
     | true=>exact absurd (yo hq) hi
    simp [zb,az,hb]
def j0 (hp ap:Hp):Prop:=∀id,(az ap id).isSome=(az hp id).isSome
def j0.refl {hp:Hp}:j0 hp hp:=fun _=>rfl
def j0.trans {a b c:Hp} (h:j0 a b) (k:j0 b c):j0 a c:=fun id=>(k id).trans (h id)
def SJ {hp:Hp} {id:Nat} {o o':Obj} (h:az hp id=some o) (hl:jC o o'):de hp (bg hp id o')/\j0 hp (bg hp id o'):=by
 constructor
 ·intro i q hq;rw [rS];by_cases hi:id=i
  ·grind
  ·exact ⟨q,by simp [hi,hq],jC.refl q⟩
 ·intro i;rw [rS]
  grind
def Zq {hp H:Hp} {id:Nat} {pu ex:Bool} {sz:Nat} {cs:List AV} (hl:de hp H) (h:az hp id=some (.cells false pu ex sz cs)):az H id=some (.cells false pu ex sz cs):=by
 obtain ⟨o',h1,eQ,rfl,h2⟩:=hl id _ h
 cases eQ with
 | false=>exact h1
 | true=>exact absurd (h2 rfl) (by simp)
section
variable {O:bt}
def atf (O:bt) (m:Mp) (S:Nat->Prop) (w:yj) (p:Pl) (ex:Bool) (sz:Nat) (cs:List AV):Prop:=
 p.z=sz/\cs.length<=p.e/\(ex=true->cs.length=p.e)/\S p.b/\aH cs=true/\bT O.ai m S w cs p.b p.o
def Ut (O:bt) (ap:Hp) (v v':AV):Prop:=∀H m S w ct,de ap H->aX O m S w H ct->(∀u,aj O.ai m S w v u->aj O.ai m S w v' u)/\aU v'=true
def aff (O:bt) (ap:Hp) (vs dL:List AV):Prop:=∀H m S w ct,de ap H->aX O m S w H ct->(∀us,av O.ai m S w vs us->av O.ai m S w dL us)/\aH dL=true
def au5 (O:bt) (ap:Hp) (id:Nat) (ex:Bool) (sz:Nat) (cs:List AV):Prop:=∀H m S w ct,de ap H->aX O m S w H ct->∀p,m id=some p->atf O m S w p ex sz cs
def E0 {ai:Nat->Nat} {m:Mp} {S:Nat->Prop} {w:yj} {b:Nat}:∀(cs:List AV) (us:List yf) (o:Nat),av ai m S w cs us->
  (∀(j:Nat) (u:yf),us[j]? =some u->w.cell? ⟨b,o+j,none⟩=some u)->bT ai m S w cs b o
 | [],us,o,_,_=>by simp only [bT]
 | c::cs,us,o,h,hu=>by
  obtain ⟨u,r,rfl,h2,h3⟩:=h;refine ⟨⟨u,by simpa using hu 0 u (by simp),h2⟩,E0 cs r (o+1) h3 (fun j v hv=>?_)⟩;rw [show o+1+j=o+(j+1) by omega]
  simp_all
def atg {m:Mp} {S:Nat->Prop} {w:yj} {cs ej:List AV} (h:∀us,av O.ai m S w cs us->av O.ai m S w ej us) {b o:Nat} (hr:bT O.ai m S w cs b o):bT O.ai m S w ej b o:=by
 obtain ⟨us,h1,_,h3⟩:=zy cs b o hr;exact E0 ej us o (h us h1) h3
def CE:∀(k:Nat) {cs:List AV},aH cs=true->aH (cs.take k)=true
 | 0,_,_=>by simp [aH]
 | k+1,[],_=>by simp [aH]
 | k+1,c::cs,h=>by
  simp only [aH,ye,wh] at h ⊢;exact ⟨h.1,CE k h.2⟩
def alW {ap:Hp} {vs dL:List AV}:∀{n:Nat} {hp:Hp},cC n hp vs=some (dL,ap)->dL.length=vs.length:=by
 intro n
 induction n generalizing vs dL ap with
 | zero=>intro hp h;simp [cC] at h
 | succ n ih=>
  intro hp h
  cases vs with
  | nil=>simp only [cC,yc,yq] at h;rw [<-h.1]
  | cons v r=>
   simp only [cC] at h
   cases h1:freeze n hp v with
   | none=>simp [h1] at h
   | some q=>
    obtain ⟨v',bB⟩:=q;simp only [h1] at h
    cases h2:cC n bB r with
    | none=>simp [h2] at h
    | some q2=>
     grind
def YH:∀n:Nat,
  (∀hp v v' ap,freeze n hp v=some (v',ap)->de hp ap/\j0 hp ap/\Ut O ap v v')/\
  (∀hp id ex sz cs ap,rQ n hp id=some (ex,sz,cs,ap)->de hp ap/\j0 hp ap/\au5 O ap id ex sz cs)/\
  (∀hp vs dL ap,cC n hp vs=some (dL,ap)->de hp ap/\j0 hp ap/\aff O ap vs dL):=by
 intro n
 induction n with
 | zero=>refine ⟨?_,?_,?_⟩<;>intros<;>simp_all [freeze,rQ,cC]
 | succ n ih=>
  obtain ⟨ihV,ihB,GI⟩:=ih;refine ⟨?_,?_,?_⟩
  ·intro hp v v' ap h;have plain:∀{v v':AV} {hp ap:Hp},(bif aU v then some (v,hp) else none)=some (v',ap)->de hp ap/\j0 hp ap/\Ut O ap v v':=by
    intro v v' hp ap h
    cases hc:aU v with
    | false=>rw [hc] at h;cases h
    | true=>
     rw [hc] at h;simp only [yz,yc,yq] at h;obtain ⟨rfl,rfl⟩:=h;exact ⟨de.refl,j0.refl,fun _ _ _ _ _ _ _=>⟨fun _ h=>h,hc⟩⟩
   cases v<;>simp only [freeze] at h<;>first | exact plain h | skip
   case aC id o k=>
    cases hb:rQ n hp id with
    | none=>simp [hb] at h
    | some q=>
     obtain ⟨ex,sz,cs,bB⟩:=q;simp only [hb] at h
     cases hc:yE (o+k*sz) cs.length with
     | false=>rw [hc] at h;cases h
     | true=>
      rw [hc] at h;simp only [yz,yc,yq] at h;obtain ⟨rfl,rfl⟩:=h;have hle:=yu hc;obtain ⟨h1,h2,h3⟩:=ihB _ _ _ _ _ _ hb;refine ⟨h1,h2,fun H m S w ct hl hh=>⟨fun u hu=>?_,by simp only [aU]⟩⟩;simp only [aj] at hu ⊢;obtain ⟨p,c,hm,rfl,AB,PS⟩:=hu;obtain ⟨g1,g2,g3,g4,g5,g6⟩:=h3 H m S w ct hl hh p hm;refine .inl ⟨p.b,p.o+o,c,rfl,AB,?_,.inr g4,CE _ (AW _ _ g5),CH _ _ _ _ (rP _ _ _ _ g6)⟩;intro hx;simp only [ye] at hx;have e1:=yo hx.2;have e2:0<sz:=by
       simp_all
      have e3:=g3 hx.1.1;rw [g1] at PS
      have:c*sz=k*sz:=by omega
      exact Nat.eq_of_mul_eq_mul_right e2 this
   case ptr id o=>
    cases hb:rQ n hp id with
    | none=>simp [hb] at h
    | some q=>
     obtain ⟨ex,sz,cs,bB⟩:=q;simp only [hb,yc,yq] at h;obtain ⟨rfl,rfl⟩:=h;obtain ⟨h1,h2,h3⟩:=ihB _ _ _ _ _ _ hb;refine ⟨h1,h2,fun H m S w ct hl hh=>⟨fun u hu=>?_,by simp only [aU]⟩⟩;simp only [aj] at hu ⊢;obtain ⟨p,hm,rfl⟩:=hu;obtain ⟨g1,g2,g3,g4,g5,g6⟩:=h3 H m S w ct hl hh p hm;exact ⟨p.b,p.o+o,rfl,.inr g4,AW _ _ g5,rP _ _ _ _ g6⟩
   case map id=>
    cases hg:az hp id with
    | none=>simp [hg] at h
    | some ob=>
     cases ob<;>simp only [hg,reduceCtorEq] at h
     rename_i rw ks vs
     cases hc:(aH ks&&aH vs) with
     | false=>rw [hc] at h;cases h
     | true=>
      rw [hc] at h;simp only [yz,yc,yq] at h;obtain ⟨rfl,rfl⟩:=h;simp only [ye] at hc;obtain ⟨h1,h2⟩:=SJ hg (o':= .mp false ks vs) ⟨false,rfl,by simp⟩;refine ⟨h1,h2,fun H m S w ct hl hh=>⟨fun u hu=>?_,by simp only [aU]⟩⟩;simp only [aj] at hu ⊢;obtain ⟨p,hm,rfl⟩:=hu;have hq:az (bg hp id (.mp false ks vs)) id=some (.mp false ks vs):=by rw [rS];simp [hg]
      obtain ⟨o',h3,eQ,rfl,h4⟩:=hl id _ hq;have oH:eQ=false:=by cases eQ with | false=>rfl | true=>exact absurd (h4 rfl) (by simp)
      subst oH;obtain ⟨p',es,clock,g1,g2,g3,g4,g5,g6⟩:=hh.obj id _ _ h3 hm;rw [hm] at g1;injection g1 with g1
      subst g1;exact ⟨p.b,es,clock,rfl,g6 rfl,hc.1,hc.2,g2,g3,g4⟩
   case fn f first cap=>
    cases f with
    | y l=>simp only [aU,yO,reduceCtorEq] at h
    | f g=>
     simp only at h
     cases h1:cC n hp first with
     | none=>simp [h1] at h
     | some q=>
      obtain ⟨ab3,bB⟩:=q;simp only [h1] at h
      cases h2:cC n bB cap with
      | none=>simp [h2] at h
      | some q2=>
       obtain ⟨OF,eJ⟩:=q2;simp only [h2,yc,yq] at h;obtain ⟨rfl,rfl⟩:=h;obtain ⟨a1,a2,a3⟩:=GI _ _ _ _ h1;obtain ⟨b1,b2,b3⟩:=GI _ _ _ _ h2;refine ⟨a1.trans b1,a2.trans b2,fun H m S w ct hl hh=>?_⟩;obtain ⟨c1,c2⟩:=a3 H m S w ct (b1.trans hl) hh;obtain ⟨d1,d2⟩:=b3 H m S w ct hl hh;refine ⟨fun u hu=>?_,by simp [aU,c2,d2]⟩;simp only [aj] at hu ⊢;obtain ⟨fi,ca,rfl,e1,e2⟩:=hu;exact ⟨fi,ca,rfl,c1 _ e1,d1 _ e2⟩
   case agg cs=>
    cases h1:cC n hp cs with
    | none=>simp [h1] at h
    | some q=>
     obtain ⟨ej,bB⟩:=q;simp only [h1,yc,yq] at h;obtain ⟨rfl,rfl⟩:=h;obtain ⟨a1,a2,a3⟩:=GI _ _ _ _ h1;refine ⟨a1,a2,fun H m S w ct hl hh=>?_⟩;obtain ⟨c1,c2⟩:=a3 H m S w ct hl hh;refine ⟨fun u hu=>?_,by simpa [aU] using c2⟩;simp only [aj] at hu ⊢;obtain ⟨xs,rfl,e1⟩:=hu;exact ⟨xs,rfl,c1 _ e1⟩
   case au cs=>
    cases h1:cC n hp cs with
    | none=>simp [h1] at h
    | some q=>
     obtain ⟨ej,bB⟩:=q;simp only [h1,yc,yq] at h;obtain ⟨rfl,rfl⟩:=h;obtain ⟨a1,a2,a3⟩:=GI _ _ _ _ h1;refine ⟨a1,a2,fun H m S w ct hl hh=>?_⟩;obtain ⟨c1,c2⟩:=a3 H m S w ct hl hh;refine ⟨fun u hu=>?_,by simpa [aU] using c2⟩;simp only [aj] at hu ⊢;obtain ⟨xs,rfl,e1⟩:=hu;exact ⟨xs,rfl,c1 _ e1⟩
  ·intro hp id ex sz ej ap h;simp only [rQ] at h
   cases hg:az hp id with
   | none=>simp [hg] at h
   | some ob=>
    cases ob<;>simp only [hg,reduceCtorEq] at h
    rename_i rw pu sU B5 cs
    cases pu with
    | true=>
     simp only [yz,yc,yq] at h;obtain ⟨rfl,rfl,rfl,rfl⟩:=h;have hq:de hp (bif rw then bg hp id (.cells false true sU B5 cs) else hp)/\j0 hp (bif rw then bg hp id (.cells false true sU B5 cs) else hp)/\az (bif rw then bg hp id (.cells false true sU B5 cs) else hp) id=some (.cells false true sU B5 cs):=by
      cases rw with
      | true=>
       obtain ⟨h1,h2⟩:=SJ hg (o':= .cells false true sU B5 cs) ⟨false,rfl,by simp⟩;exact ⟨h1,h2,by simp [rS,hg]⟩
      | false=>exact ⟨de.refl,j0.refl,hg⟩
     refine ⟨hq.1,hq.2.1,fun H m S w ct hl hh p hm=>?_⟩;obtain ⟨p',arr,t,g1,g2,g3,g4,g5,g6,g7,g8,g9,g10⟩:=hh.obj id _ _ (Zq hl hq.2.2) hm;rw [hm] at g1;injection g1 with g1
     subst g1;exact ⟨g3,g4,g6,g10 rfl,g8 rfl,g7⟩
    | false=>
     simp only [yO] at h
     cases h1:cC n hp cs with
     | none=>simp [h1] at h
     | some q=>
      obtain ⟨zc,bB⟩:=q;simp only [h1,yc,yq] at h;obtain ⟨rfl,rfl,rfl,rfl⟩:=h;obtain ⟨a1,a2,a3⟩:=GI _ _ _ _ h1;obtain ⟨o1,iL,rw1,rfl,_⟩:=a1 id _ hg;obtain ⟨b1,b2⟩:=SJ iL (o':= .cells false false sU B5 cs) ⟨false,rfl,by simp⟩;refine ⟨a1.trans b1,a2.trans b2,fun H m S w ct hl hh p hm=>?_⟩;have hq:az (bg bB id (.cells false false sU B5 cs)) id=some (.cells false false sU B5 cs):=by simp [rS,iL]
      obtain ⟨p',arr,t,g1,g2,g3,g4,g5,g6,g7,g8,g9,g10⟩:=hh.obj id _ _ (Zq hl hq) hm;rw [hm] at g1;injection g1 with g1
      subst g1;obtain ⟨c1,c2⟩:=a3 H m S w ct (b1.trans hl) hh;have hlen:=alW h1
      exact ⟨g3,by omega,fun hx=>by have:=g6 hx;omega,g10 rfl,c2,atg c1 g7⟩
  ·intro hp vs dL ap h
   cases vs with
   | nil=>
    simp only [cC,yc,yq] at h;obtain ⟨rfl,rfl⟩:=h;exact ⟨de.refl,j0.refl,fun _ _ _ _ _ _ _=>⟨fun _ h=>h,rfl⟩⟩
   | cons v r=>
    simp only [cC] at h
    cases h1:freeze n hp v with
    | none=>simp [h1] at h
    | some q=>
     obtain ⟨v1,bB⟩:=q;simp only [h1] at h
     cases h2:cC n bB r with
     | none=>simp [h2] at h
     | some q2=>
      obtain ⟨r1,eJ⟩:=q2;simp only [h2,yc,yq] at h;obtain ⟨rfl,rfl⟩:=h;obtain ⟨a1,a2,a3⟩:=ihV _ _ _ _ h1;obtain ⟨b1,b2,b3⟩:=GI _ _ _ _ h2;refine ⟨a1.trans b1,a2.trans b2,fun H m S w ct hl hh=>?_⟩;obtain ⟨c1,c2⟩:=a3 H m S w ct (b1.trans hl) hh;obtain ⟨d1,d2⟩:=b3 H m S w ct hl hh;refine ⟨fun us hu=>?_,by simp [aH,c2,d2]⟩;simp only [av] at hu ⊢;obtain ⟨u,t,rfl,e1,e2⟩:=hu;exact ⟨u,t,rfl,c1 _ e1,d1 _ e2⟩
def Ry {n:Nat} {hp ap:Hp} {vs dL:List AV} (h:cC n hp vs=some (dL,ap)):de hp ap/\j0 hp ap/\aff O ap vs dL:=(YH n).2.2 _ _ _ _ h
def RQ {n:Nat} {hp ap:Hp} {v v':AV} (h:freeze n hp v=some (v',ap)):de hp ap/\j0 hp ap/\Ut O ap v v':=(YH n).1 _ _ _ _ h
end
end
end VE
