import Derived.RangeFuncLeaves
import Derived.OrdersIn
import Derived.LoopNIn
import Derived.RangeFuncIn
import Derived.Lib.Index
import Derived.Lib.ItoaNum
import Derived.Lib.Atoi
import Derived.Lib.BitFns
import Derived.Lib.Repeat
import Derived.Lib.SlTrimSet
import Derived.Shelf.Strings.Cut
import Derived.Shelf.Strings.Prefix
import Derived.Shelf.Small.Bits
import Derived.RowKit
import Derived.Test.YtebpicijmcnecaaGreatDoorUaa
set_option linter.all false
set_option maxRecDepth 100000
open Array renaming getD_eq_getD_getElem?->xZ,getElem?_append_left->yab,getElem?_eq_getElem->ux,getElem?_eq_none->yap,getElem?_eq_some_iff->xo,replicate->vY
open Bool renaming and_eq_true->ye,false_eq_true->yA,not_eq_true'->vD,or_eq_false_iff->yaG,or_eq_true->ub
open Classical renaming em->uI
open Go renaming Call->tJ,Calls->wg,Code->wS,Deferred->tW,Ending->yaH,Exit->vX,Func->yas,FuncId->tC,LeavesInM->yco,Loop->uE,Next->yat,Obj->tV,Oper->yP,Operand->xm,Program->xi,ResultVar->ycm,RoundIn->ybb,TypeId->yu,Value->yg,World->yi
open Int renaming natCast_nonneg->yad,ofNat->ybl
open List renaming all_eq_true->ybd,countP_cons->ybe,getD_eq_getElem?_getD->yY,getElem?_cons_succ->yaq,getElem?_cons_zero->vN,getElem?_eq_getElem->xh,getElem?_eq_some_iff->xC,length_append->yC,length_cons->yH,length_drop->wH,length_map->yX,length_nil->yM,length_take->yT,mapM_cons->uo,map_append->xk,map_cons->yV,map_reverse->yak,mem_append->xD,mem_cons->xn,mem_cons_of_mem->xG,mem_cons_self->wm,mem_range->ybt,size_toArray->uX
open Nat renaming add_mul->xL,add_zero->yS,beq->yo,ble->yz,ble_eq_true_of_le->yt,blt->yF,eq_of_beq_eq_true->yf,eq_of_mul_eq_mul_right->uy,eq_or_lt_of_le->vt,eq_zero_or_pos->xg,le_of_ble_eq_true->yv,le_of_lt_succ->vE,le_refl->yq,le_trans->y9,lt_of_lt_of_le->yE,lt_or_ge->wQ,lt_succ_self->tQ,mul_le_mul_right->yL,strongRecOn->vB,testBit->ve,testBit_or->yby,zero_add->yd,zero_le->uV
open Ne renaming symm->ycn
open Option renaming bind_some->wu,getD_some->wG,map_some->wB
open Option.some renaming injEq->yb
open Prod.mk renaming injEq->yj
open UInt8 renaming ofNat->ybK,toNat->xe,toNat_ofNat'->yaK
open Option renaming some->D5,none->D6
open Bool renaming true->ycG,false->ycH
namespace VE
open Go (IntKind)
section
open Go
section
variable {tmps:Array yg}{seen:List Nat}
section
variable {O:bk}{m m':Mp}{S:Nat->Prop}{w:yi}{f:Nat->Option Nat}
def EU(f:Nat->Option Nat)(m m':Mp):Prop:=∀id j,f id=D5 j->m' j=m id
mutual
def ZP{ab:Nat->Nat}(hf:EU f m m'):∀(v:AV) (u:yg),ae ab m S w v u->ae ab m' S w (bi f v) u
 | .int _ _,_,h | .bool _,_,h | .au _ _,_,h | .cK _ _ _,_,h | .str _,_,h | .jq,_,h | .ah,_,h | .fR,_,h | .iw,_,h | .undef,_,h=>by
  simpa only[bi,ae] using h
 | .ptr id o,u,h=>by
  simp only[bi]
  cases hi:f id with
  | none=>simp only[ae]
  | some j=>
   simp only[ae] at h ⊢;rw[hf id j hi];exact h
 | .bJ cs,u,h=>by
  simp only[bi];exact qH (fun _ h=>h) (fun _ _=>rfl) _ _ (by simp[aS]) h
 | .aq ex n cs,u,h=>by
  simp only[bi];exact qH (fun _ h=>h) (fun _ _=>rfl) _ _ (by simp[aS]) h
 | .cu _ _ _ _,u,h=>by simp only[ae] at h
 | .av id o n,u,h=>by
  simp only[bi]
  cases hi:f id with
  | none=>simp only[ae]
  | some j=>
   simp only[ae] at h ⊢;rw[hf id j hi];exact h
 | .fn (.f g) first cap,u,h=>by
  simp only[bi,ae] at h ⊢;obtain⟨fi,ca,h1,h2,h3⟩:=h;exact⟨fi,ca,h1,A0 hf first _ h2,A0 hf cap _ h3⟩
 | .fn (.y l) first cap,u,h=>by
  simp only[bi]
  cases hi:f l with
  | none=>simp only[ae]
  | some j=>
   simp only[ae] at h ⊢;rw[hf l j hi];exact h
 | .map id,u,h=>by
  simp only[bi]
  cases hi:f id with
  | none=>simp only[ae]
  | some j=>
   simp only[ae] at h ⊢;rw[hf id j hi];exact h
 | .iz ks vs,u,h=>by
  simp only[bi];exact qH (fun _ h=>h) (fun _ _=>rfl) _ _ (by simp[aS]) h
 | .it id,u,h=>by
  simp only[bi]
  cases hi:f id with
  | none=>simp only[ae]
  | some j=>
   simp only[ae] at h ⊢;rw[hf id j hi];exact h
 | .agg cs,u,h=>by
  simp only[bi,ae] at h ⊢;obtain⟨xs,h1,h2⟩:=h;exact⟨xs,h1,A0 hf cs _ h2⟩
 | .ay cs,u,h=>by
  simp only[bi,ae] at h ⊢;obtain⟨xs,h1,h2⟩:=h;exact⟨xs,h1,A0 hf cs _ h2⟩
def A0{ab:Nat->Nat}(hf:EU f m m'):∀(vs:List AV) (us:List yg),ax ab m S w vs us->ax ab m' S w (dd f vs) us
 | [],us,h=>by simpa only[dd,ax] using h
 | v::r,us,h=>by
  simp only[dd,ax] at h ⊢;have⟨u,t,h1,h2,h3⟩:=h;exact⟨u,t,h1,ZP hf v u h2,A0 hf r t h3⟩
end
def aiC{ab:Nat->Nat}(hf:EU f m m'){cs:List AV}{b o:Nat}(h:bL ab m S w cs b o):bL ab m' S w (dd f cs) b o:=by
 have⟨us,h1,_,h3⟩:=rK cs b o h;exact Eh _ us o (A0 hf cs us h1) h3
def Qq:∀cs:List AV,(dd f cs).length=cs.length
 | []=>rfl
 | c::r=>by simp[dd,Qq r]
def YB:∀(tm:Env) (i:Nat),aj (dt f tm) i=bi f (aj tm i)
 | [],i=>by simp[dt,aj,bi]
 | (j,v)::r,i=>by
  simp only[dt,aj]
  cases yo j i with
  | true=>rfl
  | false=>exact YB r i
def XO(tm:Env)(i:Nat):∀live:List Nat,aj (aY tm live) i=aj tm i\/aj (aY tm live) i=.undef
 | []=>.inr rfl
 | j::r=>by
  simp only[aY,aj]
  cases hb:yo j i with
  | true=>rw[yf hb];exact .inl rfl
  | false=>exact XO tm i r
def YC{tm:Env}(hf:EU f m m')(h:bN O m S w tm tmps):bN O m' S w (dt f tm) tmps:=fun i=>by
 rw[YB];exact ZP hf _ _ (h i)
def aks{id j:Nat}{o:Obj}{p:Pl}(hf:EU f m m')(hm:m id=D5 p)(hj:m' j=D5 p)(h:eH O m S w id o):eH O m' S w j (fC f o):=by
 cases o with
 | cells rw pu ex sz cs=>
  have⟨q,arr,t,h1,h2,h3,h4,h5,h6,h7,h8,h9,gR⟩:=h;rw[hm] at h1;injection h1 with h1;subst h1
  cases pu with
  | true=>exact⟨p,arr,t,hj,h2,h3,h4,h5,h6,AP (fun _ h=>h) (fun _ _=>rfl) _ _ _ (h8 rfl) rfl h7,h8,h9,gR⟩
  | false=>exact⟨p,arr,t,hj,h2,h3,by rw[yJ,Qq];exact h4,h5,by rw[yJ,Qq];exact h6,aiC hf h7,by simp,h9,gR⟩
 | mp rw ks vs=>
  have⟨q,es,clock,h1,h2,h3,h4,h5,h6⟩:=h;rw[hm] at h1;injection h1 with h1;subst h1
  exact⟨p,es,clock,hj,h2,A0 hf _ _ h3,A0 hf _ _ h4,h5,h6⟩
 | si s pos=>
  have⟨q,t,h1,h2,h3,h4⟩:=h;rw[hm] at h1;injection h1 with h1;subst h1
  exact⟨p,t,hj,h2,h3,h4⟩
 | lp tm ps as_ body st pe=>
  have⟨q,l,hi,h1,h2,h3,h4,h5,h6,h7,h8⟩:=h;rw[hm] at h1;injection h1 with h1;subst h1
  exact⟨p,l,hi,hj,h2,h3,h4,h5,h6,YC hf h7,h8⟩
def XP{i:Nat}:∀{l:List Nat} {k j:Nat},fS i l k=D5 j->k<=j/\l[j-k]? =D5 i
 | [],k,j,h=>by simp[fS] at h
 | x::r,k,j,h=>by
  simp only[fS] at h
  cases hb:yo x i with
  | true=>
   simp_all
  | false=>
   rw[hb] at h;have⟨h1,h2⟩:=XP h
   grind
def oY{a b:Nat}:yF a b=ycG↔a<b:=by simp_all
def KX{hp:Hp}{j:Nat}{o':Obj}:∀{l:List Nat} {k:Nat} {acc:Hp},ai (dP hp f l k acc) j=D5 o'->
  (∃i id o,l[i]? =D5 id/\j=k+i/\ai hp id=D5 o/\o'=fC f o)\/ai acc j=D5 o'
 | [],k,acc,h=>.inr h
 | x::r,k,acc,h=>by
  simp only[dP] at h
  cases hx:ai hp x with
  | none=>
   simp only[hx] at h;rcases KX h with ⟨i,id,o,h1,h2,h3,h4⟩ | h
   .exact .inl ⟨i+1,id,o,by simpa using h1,by lia,h3,h4⟩
   .grind
  | some o=>
   simp only[hx] at h;rcases KX h with ⟨i,id,o,h1,h2,h3,h4⟩ | h
   .exact .inl ⟨i+1,id,o,by simpa using h1,by lia,h3,h4⟩
   .rw [eO] at h;by_cases hc:k=j
    .simp only [hc,xN,yb] at h;exact .inl ⟨0,x,o,by simp,by lia,hx,h.symm⟩
    .grind
def KY{base:Nat}{j:Nat}{o':Obj}:∀{hp:Hp},ai (eM base f hp) j=D5 o'->j<base/\∃o,ai hp j=D5 o/\o'=fC f o
 | [],h=>by simp[eM,ai] at h
 | (i,q)::r,h=>by
  simp only[eM] at h
  cases hb:yF i base with
  | true=>
   rw[hb] at h;simp only[yr] at h;rw[eO] at h;by_cases hc:i=j
   .simp only [hc,xN,yb] at h;exact⟨by rw[<-hc];exact oY.1 hb,q,by rw[eO];simp[hc],h.symm⟩
   .simp only [hc,xq] at h;have⟨h1,o,h2,h3⟩:=KY h;exact⟨h1,o,by rw[eO];simp[hc,h2],h3⟩
  | false=>
   rw[hb] at h;have⟨h1,o,h2,h3⟩:=KY h;have hc:¬i=j:=fun e=>by
    have:=oY.2 h1
    grind
   exact⟨h1,o,by rw[eO];simp[hc,h2],h3⟩
def pJ(m:Mp)(base:Nat)(seen:List Nat):Mp:=fun j=>
 if j<base then m j else match seen[j-base]? with
  | some id=>if fA base seen id=D5 j then m id else D6
  | none=>D6
def P1{base:Nat}{j:Nat}{p:Pl}(h:pJ m base seen j=D5 p):∃id,fA base seen id=D5 j/\m id=D5 p/\(j<base->id=j):=by
 unfold pJ at h
 split at h
 .rename_i hj;exact⟨j,by simp[fA,oY.2 hj],h,fun _=>rfl⟩
 .grind
def akt{base:Nat}:EU (fA base seen) m (pJ m base seen):=by
 intro id j h;have h0:=h;unfold fA at h
 cases hb:yF id base with
 | true=>
  rw[hb] at h;simp only[yr,yb] at h;subst h;simp[pJ,oY.1 hb]
 | false=>
  rw[hb] at h;have⟨h1,h2⟩:=XP h
  have:¬j<base:=by lia
  simp only[pJ,this,xq,h2,h0,xN]
def PF{s:St}{live:List Nat}(ht:bN O m S w s.tm tmps)(hh:aP O m S w s.hp s.ct)(hb:s.base<=s.ct):
  ∃m',bN O m' S w (bg live s).tm tmps/\aP O m' S w (bg live s).hp (bg live s).ct/\(bg live s).base=s.base/\s.base<=(bg live s).ct/\bR m S w s.hp m' S w (bg live s).hp s.base:=by
 simp only[bg];generalize MG:reach s.hp s.base 100000 (ck (aY s.tm live)++bH s.base s.hp) []=seen;have hr:=akt (m:=m) (base:=s.base) (seen:=seen);have aB:∀j p,pJ m s.base seen j=D5 p->j<s.base+seen.length:=by
  intro j p h;unfold pJ at h
  grind
 have back:∀j o' p,ai (dP s.hp (fA s.base seen) seen s.base (eM s.base (fA s.base seen) s.hp)) j=D5 o'->pJ m s.base seen j=D5 p->
   ∃id o,fA s.base seen id=D5 j/\ai s.hp id=D5 o/\m id=D5 p/\o'=fC (fA s.base seen) o:=by
  intro j o' p ho hm;have⟨id,h1,h2,h3⟩:=P1 hm;rcases KX ho with ⟨i,Uy,o,g1,g2,g3,g4⟩ | ho
  .have hj:¬j<s.base:=by lia
   have:pJ m s.base seen j=if fA s.base seen Uy=D5 j then m Uy else D6:=by
    simp only[pJ,hj,xq,show j-s.base=i by lia,g1]
   grind
  .have ⟨g1,o,g2,g3⟩:=KY ho
   grind
 refine⟨pJ m s.base seen,?_,⟨?_,aB,?_,hh.slt,?_,?_,hh.lB,hh.fk,fun j o' ho=>(by
  rcases KX ho with ⟨i,Uy,o,g1,g2,g3,g4⟩ | ho
  .grind
  .have:=(KY ho).1;lia)⟩,by trivial,by lia,⟨rfl,rfl,rfl,yq _,fun _ _ _=>rfl,fun _ h=>h,fun _ _=>rfl,fun _ h=>.inl h,?_,?_,fun _ r h=>⟨r,h⟩⟩⟩
 .refine YC hr (fun i=>?_);rcases XO s.tm i live with h | h
  .rw [h];exact ht i
  .rw [h];simp only[ae]
 .intro j o' p ho hm;obtain⟨id,o,h1,h2,h3,rfl⟩:=back j o' p ho hm;exact aks hr h3 hm (hh.obj id o p h2 h3)
 .intro i j oi oj pi pj hi hj bB fI e;have⟨idi,o1,a1,a2,a3,_⟩:=back i oi pi hi bB;have⟨idj,o2,b1,b2,b3,_⟩:=back j oj pj hj fI
  have:=hh.inj idi idj o1 o2 pi pj a2 b2 a3 b3 e
  grind
 .intro j p hm;have⟨id,_,h2,_⟩:=P1 hm;exact hh.blt id p h2
 .intro j p hm;have⟨id,_,h2,_⟩:=P1 hm;exact hh.low id p h2
 .rintro b ⟨j,o',p,h1,h2,h3⟩;have⟨id,o,_,g2,g3,_⟩:=back j o' p h1 h2;exact .inl ⟨id,o,p,g2,g3,h3⟩
 .intro id p hid hm;simp[pJ,hid,hm]
end
end
end
section
open Go
section
variable {v:AV}{an:Hp}{lo:Nat}{u:yg}
section
variable {O:bk}{m:Mp}{S:Nat->Prop}{w:yi}{hp:Hp}{ct:Nat}
def YD(hh:aP O m S w hp ct)(id:Nat):aP O m S w (cl hp id) ct:=by
 have sub:∀i o,ai (cl hp id) i=D5 o->ai hp i=D5 o:=fun i o h=>by
  rw[Hf] at h
  grind
 exact⟨fun i o p h hm=>hh.obj i o p (sub i o h) hm,hh.lt,fun i j oi oj pi pj hi hj=>hh.inj i j oi oj pi pj (sub i oi hi) (sub j oj hj),hh.slt,hh.blt,hh.low,hh.lB,hh.fk,fun i o h=>hh.aB i o (sub i o h)⟩
def ZQ{id b:Nat}(h:dI m (cl hp id) b):dI m hp b:=by
 have⟨i,o,p,h1,h2,h3⟩:=h;rw[Hf] at h1;by_cases hc:id=i
 .grind
 .simp only [hc,xq] at h1;exact⟨i,o,p,h1,h2,h3⟩
def Ww(hh:aP O m S w hp ct){id:Nat}{o:Obj}{p:Pl}(hg:ai hp id=D5 o)(hm:m id=D5 p):¬dI m (cl hp id) p.b:=by
 rintro⟨i,o',q,h1,h2,h3⟩;rw[Hf] at h1;by_cases hc:id=i
 .grind
 .simp only [hc,xq] at h1;exact hc (hh.inj i id o' o q p h1 hg h2 hm h3).symm
def amB(hd:jZ hp an){b:Nat}(h:dI m an b):dI m hp b:=by
 have⟨i,o,p,h1,h2,h3⟩:=h
 have:=hd i
 rw[h1] at this
 cases hq:ai hp i with
 | none=>rw[hq] at this;cases this
 | some q=>exact⟨i,q,p,hq,h2,h3⟩
def W5{v':AV}{n:Nat}(hh:aP O m S w hp ct)(hf:freeze n hp v=D5 (v',an))(hv:ae O.ab m S w v u):
  ∃S',aP O m S' w an ct/\(∀b,S b->S' b)/\(∀b,S' b->S b\/dI m hp b)/\aS v'=ycG/\ae O.ab eB S' w v' u/\iC O.ab S' w lo v' u []:=by
 have⟨h1,h2,h3⟩:=PY (O:=O) hf;have⟨S',g1,g2,g3⟩:=ZH hh h1 (fun id o p ho hm=>by
  have:=h2 id
  rw[ho] at this
  cases hq:ai hp id with
  | none=>rw[hq] at this;cases this
  | some q=>exact⟨q,rfl⟩) (yq _) (fun id o ho=>(by
  have:=h2 id
  rw[ho] at this
  cases hq:ai hp id with
  | none=>rw[hq] at this;cases this
  | some q=>exact hh.aB id q hq))
 have⟨k1,k2⟩:=h3 an m S' w ct cz.refl g1;have hr:=k1 u (kZ (fun _ _ h=>h) g2 (fun _ _=>rfl) v u hv);have bq:ae O.ab eB S' w v' u:=qH (fun _ h=>h) (fun _ _=>rfl) v' u k2 hr;refine⟨S',g1,g2,g3,k2,bq,?_⟩
 cases v' with
 | cu _ _ _ _=>simp[aS] at k2
 | _=>exact⟨rfl,bq,k2⟩
def aiD{S':Nat->Prop}{bs:List Nat}(hS:∀b,S b->S' b)(hn:∀b,b∈bs->¬S' b)(h:iC O.ab S w lo v u bs):iC O.ab S' w lo v u bs:=by
 cases v with
 | cu ex sz n cs=>
  obtain⟨b,o,c,arr,t,rfl,rfl,g1,g2,g3,g4,g5,g6,g7,g8,g9⟩:=h;exact⟨b,o,c,arr,t,rfl,rfl,g1,g2,g3,hn b (by simp),g5,g6,g7,AP hS (fun _ _=>rfl) cs b o g9 rfl g8,g9⟩
 | _=>simp only[iC] at h ⊢;exact⟨h.1,qH hS (fun _ _=>rfl) _ _ h.2.2 h.2.1,h.2.2⟩
def XQ{v':AV}{n:Nat}(hh:aP O m S w hp ct)(hf:nP n hp v=D5 (v',an))(hv:ae O.ab m S w v u)(aZ:∀b,dI m hp b->lo<=b):
  ∃S' bs,aP O m S' w an ct/\(∀b,S b->S' b)/\(∀b,S' b->S b\/dI m hp b)/\iC O.ab S' w lo v' u bs/\bs.Nodup/\(∀b,b∈bs->dI m hp b/\¬dI m an b)/\(∀b,dI m an b->dI m hp b):=by
 have frozen:freeze n hp v=D5 (v',an)->∃S' bs,aP O m S' w an ct/\(∀b,S b->S' b)/\(∀b,S' b->S b\/dI m hp b)/\iC O.ab S' w lo v' u bs/\bs.Nodup/\(∀b,b∈bs->dI m hp b/\¬dI m an b)/\(∀b,dI m an b->dI m hp b):=by
  intro hz;have⟨S',g1,g2,g3,g4,g5,g6⟩:=W5 (lo:=lo) hh hz hv
  exact⟨S',[],g1,g2,g3,g6,by simp,by simp,fun b hb=>amB (PY (O:=O) hz).2.1 hb⟩
 unfold nP at hf
 split at hf
 .rename_i id o k
  split at hf
  .rename_i ex sz cs hg
   cases hc:yz (o+k*sz) cs.length with
   | false=>rw[hc] at hf;cases hf
   | true=>
    rw[hc] at hf;obtain⟨rfl,rfl⟩:=hf;have hle:=yv hc;obtain⟨p,c,hm,rfl,h1,h2⟩:=hv;have⟨p',arr,t,g1,g2,g3,g4,g5,g6,g7,g8,g9,g10⟩:=hh.obj id _ _ hg hm;rw[hm] at g1;injection g1 with g1
    subst g1;rw[g3] at h2;refine⟨S,[p.b],YD hh id,fun _ h=>h,fun _ h=>.inl h,?_,by simp,?_,fun b hb=>ZQ hb⟩
    .refine ⟨p.b,p.o+o,c,arr,t,rfl,rfl,h1,?_,aZ _ (HK hg hm),g9 rfl,g2,?_,by lia,?_,AO _ (zt _ _ (g8 rfl))⟩
     .intro hx;simp only[ye] at hx;have e1:=yf hx.2;have e2:=oY.1 hx.1.2;have e3:=g6 hx.1.1
      have:c*sz=k*sz:=by lia
      exact uy e2 this
     .simp only [slice,yT,wH];lia
     .exact AP (fun _ h=>h) (fun _ _=>rfl) _ _ _ (AO _ (zt _ _ (g8 rfl))) rfl (zq _ _ _ _ (qD _ _ _ _ g7))
    .intro b hb;simp only[List.mem_singleton] at hb;subst hb;exact⟨HK hg hm,Ww hh hg hm⟩
  .grind
 .grind
def W6{lo n:Nat}:∀{vs dM:List AV} {us:List yg} {hp an:Hp} {S:Nat->Prop},aP O m S w hp ct->CE n hp vs=D5 (dM,an)->ax O.ab m S w vs us->(∀b,dI m hp b->lo<=b)->
  ∃S' bs,(∀b,S b->S' b)/\(∀b,S' b->S b\/dI m hp b)/\kO O.ab S' w lo dM us bs/\bs.Nodup/\(∀b,b∈bs->dI m hp b)/\(∀b,S' b->b<w.heap.size)
 | [],dM,us,hp,an,S,hh,hf,hv,aZ=>by
  obtain⟨rfl,rfl⟩:=hf;exact⟨S,[],fun _ h=>h,fun _ h=>.inl h,by simp only[kO];exact⟨hv,by trivial⟩,by simp,by simp,hh.slt⟩
 | v::r,dM,us,hp,an,S,hh,hf,hv,aZ=>by
  simp only[CE] at hf
  cases h1:nP n hp v with
  | none=>simp[h1] at hf
  | some q=>
   have⟨v1,aX⟩:=q;simp only[h1] at hf
   cases h2:CE n aX r with
   | none=>simp[h2] at hf
   | some q2=>
    simp only[h2,yb,yj] at hf;obtain⟨rfl,rfl⟩:=hf;obtain⟨u,t,rfl,eC,cE⟩:=hv;have⟨S1,b1,k1,k2,k3,k4,k5,k6,k7⟩:=XQ (lo:=lo) hh h1 eC aZ;have⟨S2,b2,g1,g2,g3,g4,g5,g6⟩:=W6 (us:=t) k1 h2 (gA (fun _ _ h=>h) k2 (fun _ _=>rfl) _ _ cE) (fun b hb=>aZ b (k7 b hb));have SL:∀b,b∈b1->¬S2 b:=by
     intro b hb hs;rcases g2 b hs with h | h
     .cases v1 with
      | cu ex sz n cs=>
       simp only[iC] at k4
       grind
      | _=>simp only[iC] at k4;rw[k4.1] at hb;cases hb
     .grind
    refine⟨S2,b1++b2,fun b hb=>g1 b (k2 b hb),fun b hb=>?_,?_,?_,?_,g6⟩
    .grind
    .simp only [kO];exact⟨u,t,b1,b2,rfl,rfl,aiD g1 SL k4,g3⟩
    .grind
    .grind
def P2{lo:Nat}:∀{cs:List AV} {us:List yg},aD cs=ycG->ax O.ab eB S w cs us->kO O.ab S w lo cs us []
 | [],us,_,h=>by simp only[ax] at h;exact⟨h,by trivial⟩
 | c::r,us,hp,h=>by
  obtain⟨u,t,rfl,h1,h2⟩:=h;simp only[aD,ye] at hp;refine⟨u,t,[],[],rfl,rfl,?_,P2 hp.2 h2⟩
  cases c with
  | cu _ _ _ _=>simp[aS] at hp
  | _=>exact⟨rfl,h1,hp.1⟩
def aiE{r:AV}(hh:aP O m S w hp ct)(hr:result hp v=D5 r)(hv:ae O.ab m S w v u)(aZ:∀b,dI m hp b->lo<=b):
  ∃S',(∀b,S b->S' b)/\(∀b,S' b->S b\/dI m hp b)/\(∀b,S' b->b<w.heap.size)/\nZ O.ab S' w lo r u:=by
 unfold result at hr
 split at hr
 .rename_i vs
  split at hr
  .cases h1:CE deep hp vs with
   | none=>simp[h1] at hr
   | some q=>
    simp only[h1,yb] at hr;subst hr;obtain⟨us,rfl,hv⟩:=hv;have⟨S',bs,g1,g2,g3,g4,g5,g6⟩:=W6 (lo:=lo) hh h1 hv aZ;exact⟨S',g1,g2,g6,us,bs,rfl,g3,g4⟩
  .cases h1:freeze deep hp (.ay vs) with
   | none=>simp[h1] at hr
   | some q=>
    have⟨v',an⟩:=q;simp only[h1,yb] at hr;subst hr;have⟨S',g1,g2,g3,g4,g5,g6⟩:=W5 (lo:=lo) hh h1 hv;refine⟨S',g2,g3,g1.slt,?_⟩
    cases v' with
    | ay cs=>
     obtain⟨xs,rfl,g5⟩:=g5;exact⟨xs,[],rfl,P2 (by simpa[aS] using g4) g5,by simp⟩
    | _=>exact⟨[],g6⟩
 .rename_i Oy
  cases h1:nP deep hp v with
  | none=>simp[h1] at hr
  | some q=>
   have⟨v',an⟩:=q;simp only[h1,yb] at hr;subst hr;have⟨S',bs,g1,g2,g3,g4,_⟩:=XQ (lo:=lo) hh h1 hv aZ;refine⟨S',g2,g3,g1.slt,?_⟩
   cases v' with
   | ay cs=>
    obtain⟨rfl,h2,h3⟩:=g4;obtain⟨xs,rfl,h2⟩:=h2;exact⟨xs,[],rfl,P2 (by simpa[aS] using h3) h2,by simp⟩
   | _=>exact⟨bs,g4⟩
end
end
end
section
open Go
def WF(ro:Option Nat):Fence:={Fence.wide with round:=ro}
section
variable {O:bk}
def aaD(O:bk)(hp:Hp)(ct:Nat)(l:Nat)(xs:List AV)(v:AV)(an:Hp)(aK:Nat):Prop:=
 ∀(m:Mp) (S:Nat->Prop) (w:yi) (args:Array yg) (p:Pl),aP O m S w hp ct->m l=D5 p->ax O.ab m S w xs args.toList->
  ∃f tmps assign body,(Instr.yield p.b args).run O.P w=.ok (.round p.b f tmps assign body) w/\ybb Fence.wide 0 O.P p.b f tmps assign body w (zx O m S w hp ct v an aK)
structure nO(O:bk)(run:bZ):Prop where
 pure:∀n ap r,bQ O.prog O.aG run n ap=D5 r->dL O n ap r
 heap:∀hp ct n ap v an aK,ir O.prog O.aG run hp ct n ap=D5 (v,an,aK)->Bt O n hp ct ap v an aK
 round:∀hp ct l xs v an aK,iP run hp ct l xs=D5 (v,an,aK)->aaD O hp ct l xs v an aK
end
section
variable {P:xi}{o:yP}{a:Act}{w:yi}{ro:Option Nat}{next:Act->yi->Prop}{Q:vX->Act->yi->Prop}
def KZ{c:tJ}{f:xm}(ho:o.op=.call c)(hc:c.callee=.value f){g:tC}{fi ca:Array yg}(hf:a.eval f=.func (.func g) fi ca){R:yaH->yi->Prop}(h:A9 P g (fi++c.args.map a.eval++ca) w R)(hn:∀e w',R e w'->∃u,e=.returned u/\next (a.put o.dst u) w'):o.wpIn (WF ro) 0 P a w next Q:=by
 have du:(o.semAt ro a.eval).run P w=(callFunc g (fi++c.args.map a.eval++ca)).run P w:=by
  rw[Oper.semAt_eq _ _ _ (fun c' h'=>by rw[ho] at h';cases h')];simp only[execOp,ho,resolve,hc,Deferred.ofValue,hf,Sem.run_bind,Sem.run_pure,Result.andThen_ok,invoke]
 refine⟨fun _ _=>trivial,?_⟩;show o.uponIn (WF ro) 0 P a next Q ((o.semAt ro a.eval).run P w)
 rw[du];rcases h with ⟨h1,h2⟩ | ⟨u,w',h1,h2⟩
 .rw [h1,Oper.uponIn_enter];refine⟨fun h=>by simp[WF,Fence.wide] at h,?_⟩;have h3:CallsIn (WF ro) 0 P g (fi++c.args.map a.eval++ca) w R:=h2;refine CallsIn.mono h3 (fun e w' he=>?_);obtain⟨u,rfl,hq⟩:=hn e w' he;exact hq
 .rw [h1];have⟨u',e,hq⟩:=hn _ _ h2;injection e with e
  subst e;exact hq
def aku{c:tJ}{f:xm}(ho:o.op=.call c)(hc:c.callee=.value f){l:Nat}(hf:a.eval f=.func (.yield l) #[] #[]){R:yaH->yi->Prop}{g:tC}{tmps:Array yg}{assign body:wS}(hy:(Instr.yield l (c.args.map a.eval)).run P w=.ok (.round l g tmps assign body) w)(h:ybb Fence.wide 0 P l g tmps assign body w R)(hn:∀e w',R e w'->∃u,e=.returned u/\next (a.put o.dst u) w'):o.wpIn (WF ro) 0 P a w next Q:=by
 have du:(o.semAt ro a.eval).run P w=.ok (.round l g tmps assign body) w:=by
  rw[Oper.semAt_eq _ _ _ (fun c' h'=>by rw[ho] at h';cases h')];simp only[execOp,ho,resolve,hc,Deferred.ofValue,hf,Sem.run_bind,Sem.run_pure,Result.andThen_ok,invoke,Array.empty_append];exact hy
 refine⟨fun _ _=>trivial,?_⟩;show o.uponIn (WF ro) 0 P a next Q ((o.semAt ro a.eval).run P w)
 rw[du,Oper.uponIn_round];refine⟨fun h=>by simp[WF,Fence.wide] at h,?_⟩;have h3:ybb (WF ro) 0 P l g tmps assign body w R:=h;refine RoundIn.mono h3 (fun e w' he=>?_);obtain⟨u,rfl,hq⟩:=hn e w' he;exact hq
def Ez{n:yat}{u:yg}{w':yi}(hd:∀c,o.op≠.defer c)(h:(execOp a.eval o).run P w=.ok n w')(hn:n=.value u\/(n=.skip/\u=undef))(hq:next (a.put o.dst u) w'):o.wpIn (WF ro) 0 P a w next Q:=by
 refine⟨fun _ _=>trivial,?_⟩;show o.uponIn (WF ro) 0 P a next Q ((o.semAt ro a.eval).run P w)
 rw[Oper.semAt_eq _ _ _ hd,h];rcases hn with rfl | ⟨rfl,rfl⟩
 .exact hq
 .exact hq
end
def nh(P:xi)(H:Hint)(q:Op)(o:yP):Prop:=
 (∃k,q=aM P H k o)\/(∃c f rs,o.op=.call c/\c.callee=.value f/\q=.iS rs (aI H f) (gH H c.args.toList))\/
  (∃t x y sz rs,o.op=.store t x y/\bU P t=D5 sz/\q=.kx rs sz (aI H x) (aI H y))\/
  (∃k rs sz b x y,Op.df sz b x y=aM P H k o/\q=.kQ rs sz b x y)\/(∃k sz b x y,Op.df sz b x y=aM P H k o/\q=.pZ sz b x y)\/∃k n sz z ps,Op.iY n sz z ps=aM P H k o/\q=.ol n sz z ps
def iV:Op->Op
 | .iS _ f xs=>.iS [] f xs
 | .kx _ s x v=>.st s x v
 | .kQ _ s b x v=>.df s b x v
 | o=>o
section
variable {O:bk}{H:Hint}{m:Mp}{S:Nat->Prop}{w:yi}{tm:Env}{a:Act}{hp:Hp}{ct:Nat}{self:bZ}{ro:Option Nat}{next:Act->yi->Prop}{Q:vX->Act->yi->Prop}
def LQ{o:yP}{k:Nat}{md:Md}{x:X}{xs:List X}(h:aM O.P H k o=.call md x xs)(hb:x≠.c .undef):∃c f,o.op=.call c/\c.callee=.value f/\x=aI H f/\xs=gH H c.args.toList:=by
 have nb:bad=.call md x xs->False:=fun h=>by simp only[bad,Op.call.injEq] at h;exact hb h.2.1.symm
 cases ho:o.op with
 | call c=>
  have⟨callee,args,ts⟩:=c;simp only[aM,ho] at h
  split at h
  .rename_i f;cases hm:H.mode k<;>simp only[hm,Op.call.injEq,reduceCtorEq] at h
   all_goals exact⟨_,f,rfl,rfl,h.2.1.symm,h.2.2.symm⟩
  .repeat' split at h
   all_goals first
    | exact (nb h).elim
    | (cases h;done)
    | (revert h;generalize yo _ _=bb;intro h;cases bb<;>first | exact (nb h).elim | (cases h;done))
  .exact (nb h).elim
 | binOp op t x' y ty=>
  cases op<;>simp only[aM,ho,mR,nN] at h
  case eql=>
        repeat' split at h
        all_goals first
         | exact (nb h).elim
         | (cases h;done)
         | (cases bm:(O.P.stoodInHeld t||O.P.eqGuardType O.P.depth t)<;>rw[bm] at h<;>first | exact (nb h).elim | (cases h;done))
  case neq=>
        repeat' split at h
        all_goals first
         | exact (nb h).elim
         | (cases h;done)
         | (cases bm:(O.P.stoodInHeld t||O.P.eqGuardType O.P.depth t)<;>rw[bm] at h<;>first | exact (nb h).elim | (cases h;done))
  all_goals cases h
 | buildSlice t n parts=>
  simp only[aM,ho] at h
  repeat' split at h
  all_goals first
   | exact (nb h).elim
   | (cases h;done)
   | (revert h;generalize yz _ _=bb;intro h;cases bb<;>first | exact (nb h).elim | (simp only[yr] at h;cases h;done))
 | makeMap t r=>
  cases r<;>simp only[aM,ho] at h
  .repeat' split at h
   all_goals first
    | exact (nb h).elim
    | (cases h;done)
  .exact (nb h).elim
 | next x' b=>
  cases b<;>simp only[aM,ho] at h
  .exact (nb h).elim
  .cases h
 | _=>
  simp only[aM,ho] at h
  (repeat' split at h)
  all_goals first
   | contradiction
   | exact (nb h).elim
   | (cases h;done)
def ahF{o:yP}{k:Nat}{r:AV×Hp×Nat}(hv:aW O.prog O.aG self tm hp ct (aM O.P H k o)=D5 r):∀c,o.op≠.defer c:=by
 intro c ho;simp[aM,ho,bad,aW,eb,aw] at hv
end
end
section
open Go
section
variable {v:AV}{Hq:Hp}{sz:Nat}{dz:Obj}
section
variable {O:bk}{H:Hint}{m:Mp}{S:Nat->Prop}{w:yi}{tm:Env}{a:Act}{hp:Hp}{ct cq:Nat}
def fB(tm:Env)(hp:Hp)(ct:Nat):Op->Option (AV×Obj)
 | .df sz b x y=>sc hp ct sz b (aw tm x) (iq hp sz (aw tm y))
 | _=>D6
def Rz(O:bk)(m:Mp)(S:Nat->Prop)(w:yi)(a:Act)(ct:Nat)(o:yP)(v:AV)(b:Obj):Prop:=
 ∃u g p,(execOp a.eval o).run O.P w=.ok (.value u) (w.drew.alloc g)/\p.b=w.heap.size/\¬ij b/\
  ∀m',cL m m'->m' ct=D5 p->eH O m' S (w.drew.alloc g) ct b/\ae O.ab m' S (w.drew.alloc g) v u
def akv{e:yu}{z:yg}{need cap:Nat}{cs:List AV}{us:List yg}(hh:aP O m S w hp cq)(hr:ax O.ab m S w cs us)(hl:us.length=need*sz)(hz:z.cells.size=sz)(C5:Bool)(Ux:C5=ycG->aD cs=ycG)(hc:need<=cap):
  let w':=w.drew.alloc (.cells (us.toArray++Builtin.zeroCells z.cells (cap-need)) e)
  let p:Pl:=⟨w.heap.size,0,cap*sz,sz⟩
  ∀m',cL m m'->m' ct=D5 p->eH O m' S w' ct (.cells ycG C5 ycH sz cs):=by
 intro w' p m' hm hi;have aQ:fg S w w':=fun b hb=>by
  have:=hh.slt b hb
  exact RowKit.Below.heap_alloc w.drew _ b (by simpa using this)
 have iZ:w'.heap[w.heap.size]? =D5 (.cells (us.toArray++Builtin.zeroCells z.cells (cap-need)) e (0,0)):=heap_alloc_new w.drew _;have fG:=fP _ _ hr;refine⟨p,_,e,hi,iZ,rfl,?_,?_,by simp,?_,Ux,?_,by simp⟩
 .show cs.length<=cap*sz
  rw[<-fG,hl];exact yL _ hc
 .show 0+cap*sz<=_
  rw[Array.size_append,uX,size_zeroCells,hz,hl,<-xL];rw[yd];exact yL _ (by lia)
 .refine Lb iZ cs us 0 (gA hm (fun _ h=>h) aQ _ _ hr) (fun j u hj=>?_);rw[yd,yab (by rw[uX];exact (xC.1 hj).1),List.getElem?_toArray]
  exact hj
 .intro _ hS
  have:=hh.slt _ hS
  simp[p] at this
def mT{a b:Nat}(h:yF a b=ycG):a<b:=yv h
def akw{o:yP}{b':yu}{t u e:yu}{by':Nat}{z:AV}{x y:xm}(hH:eF O H)(ht:bN O m S w tm a.tmps)(hh:aP O m S w hp cq)(du:(execOp a.eval o).run O.P w=((do pure (.value (<-Builtin.append_ #[t,u] b' #[a.eval x,a.eval y])):Sem yat)).run O.P w)(sZ:O.P.underlying t=D5 (.slice e))(hu:(∃e',O.P.underlying u=D5 (.slice e'))\/O.P.underlying u=D5 .string)(hs:bU O.P e=D5 sz)(hb:sS O.P e=D5 by')(hz:ll O.P e=D5 z)(rh:(cellsOf z).length=sz)(hv:fB tm hp ct (.df sz by' (aI H x) (aI H y))=D5 (v,dz)):Rz O m S w a ct o v dz:=by
 simp only[fB] at hv;obtain⟨ti,zv,rk,rfl,rfl,JY,rfl⟩:=ZK hs hb hz;have aJ:∀u' w',(Builtin.append_ #[t,u] b' #[a.eval x,a.eval y]).run O.P w=.ok u' w'->(execOp a.eval o).run O.P w=.ok (.value u') w':=fun u' w' h=>by
  rw[du,Sem.run_bind,h];rfl
 have DG:zv.cells.size=ti.size:=by
  have:=fP _ _ (Cu (ab:=O.ab) (m:=m) (S:=S) (w:=w) zv)
  rw[<-rh,<-this];simp
 cases nf:iq hp ti.size (aw tm (aI H y)) with
 | none=>simp[nf,sc] at hv
 | some q=>
  have⟨n,new⟩:=q;rw[nf] at hv;have⟨news,kC,dn⟩:=XK hh (bO hH ht y) nf;have JZ:=fP _ _ kC;have rx:=bO hH ht x;cases hx:aw tm (aI H x)<;>rw[hx] at hv rx<;>simp only[sc,reduceCtorEq] at hv
  rename_i id o0 k;simp only[ae] at rx;have⟨p,c,hm,ex,h1,h2⟩:=rx
  split at hv
  case h_2=>cases hv
  rename_i cm pu zz cs hg
  cases hc:(yo zz ti.size&&(yF 0 n&&(yz (k+n) room&&(yz ((k+n)*ti.bytes) room&&(yo (o0+k*ti.size) cs.length&&yF 0 ti.size))))) with
  | false=>rw[hc] at hv;cases hv
  | true=>
   rw[hc] at hv;simp only[yr,yb,yj] at hv;obtain⟨rfl,rfl⟩:=hv;simp only[ye] at hc;have c0:=yf hc.1;have c5:=mT hc.2.1;have c1:=yv hc.2.2.1;have c2:=yv hc.2.2.2.1;have c3:=yf hc.2.2.2.2.1;have c4:=mT hc.2.2.2.2.2;simp only[room] at c1 c2;have⟨p',arr,t',g1,g2,g3,g4,g5,g6,g7,g8,g9,g10⟩:=hh.obj id _ _ hg hm;rw[hm] at g1;injection g1 with g1
   subst g1;subst c0;rw[g3] at h2;have hce:=g6 rfl;have ei:c=k:=by
    have:c*ti.size=k*ti.size:=by lia
    exact uy c4 this
   subst ei;have oC:bL O.ab m S w (slice o0 (c*ti.size) cs) p.b (p.o+o0):=zq _ _ _ _ (qD _ _ _ _ g7);have⟨lC,f1,f2,f3⟩:=rK _ _ _ oC;have M9:(slice o0 (c*ti.size) cs).length=c*ti.size:=by simp only[slice,yT,wH];lia
   have mC:(pu&&aD new)=ycG->aD (slice o0 (c*ti.size) cs++new)=ycG:=fun h=>by
    simp only[ye] at h;exact Cv (AO _ (zt _ _ (g8 h.1))) h.2
   have J0:Src O.P w ti.size c lC (.slice (D5 ⟨p.b,p.o+o0,D6⟩) c c):=Ed (by lia) (fun j u hj=>by rw[mS];exact f3 j u hj)
   have hr:=KN (P:=O.P) (ty:=b') (w:=w) sZ hu rk JY rfl J0 dn (by lia) c1 c2;have jQ:=grownCap_ge w (c+n) c e;have iZ:=akv (ct:=ct) (e:=e) (z:=zv) (cap:=grownCap w (c+n) c e) hh (kX f1 kC) (need:=c+n) (sz:=ti.size) (by rw[yC,f2,M9,dn.2.1,xL]) DG (pu&&aD new) mC jQ;exact⟨_,_,⟨w.heap.size,0,grownCap w (c+n) c e*ti.size,ti.size⟩,aJ _ _ (by rw[ex];exact hr),rfl,by simp[ij],fun m' hle hi=>⟨iZ m' hle hi,by simp only[ae];exact⟨_,_,hi,rfl,jQ,by simp⟩⟩⟩
def ahG(hl:cz hp Hq){q:Nat×List AV}(h:lZ hp sz v=D5 q):lZ Hq sz v=D5 q:=by
 cases v<;>simp only[lZ,reduceCtorEq] at h ⊢
 .exact h
 .exact h
 .rename_i id o n
  cases hg:ai hp id with
  | none=>simp[hg] at h
  | some ob=>
   cases ob<;>simp only[hg,reduceCtorEq] at h
   obtain⟨o',h1,r,rfl,_⟩:=hl id _ hg;simp only[h1];exact h
def aiF(hl:cz hp Hq){q:Nat×List AV}(h:iq hp sz v=D5 q):iq Hq sz v=D5 q:=by
 by_cases hs:∃b,v=.str b
 .obtain ⟨b,rfl⟩:=hs;exact h
 .have e:∀hp:Hp,iq hp sz v=lZ hp sz v:=fun hp=>by
   cases v<;>first
    | rfl
    | exact absurd ⟨_,rfl⟩ hs
  rw[e] at h ⊢;exact ahG hl h
def akx(hl:cz hp Hq){b:Nat}{x y:AV}(h:sc hp ct sz b x (iq hp sz y)=D5 (v,dz)):sc Hq ct sz b x (iq Hq sz y)=D5 (v,dz):=by
 cases hs:iq hp sz y with
 | none=>rw[hs] at h;simp[sc] at h
 | some q=>
  rw[aiF hl hs];rw[hs] at h;have⟨n,new⟩:=q;cases x<;>simp only[sc,reduceCtorEq] at h ⊢
  rename_i id o k
  cases hg:ai hp id with
  | none=>simp[hg] at h
  | some ob=>
   cases ob with
   | cells cm pu ex z cs=>
    cases ex with
    | false=>simp[hg] at h
    | true=>
     obtain⟨o',h1,r,rfl,_⟩:=hl id _ hg;simp only[hg] at h;simp only[h1];exact h
   | _=>simp[hg] at h
def ao1{o:yP}{k:Nat}(hH:eF O H)(ht:bN O m S w tm a.tmps)(hh:aP O m S w hp cq)(hv:fB tm hp ct (aM O.P H k o)=D5 (v,dz)):Rz O m S w a ct o v dz:=by
 have ib:∀{r:AV×Obj},fB tm hp ct bad=D5 r->False:=fun h=>by simp[bad,fB] at h
 cases ho:o.op with
 | call c=>
  obtain⟨callee,args,ts⟩:=c;simp only[aM,ho] at hv
  split at hv
  .cases DE:H.mode k<;>simp[DE,fB] at hv
  .rename_i _ b
   split at hv
   .rename_i x y t u dQ kR;obtain⟨al⟩:=args;obtain⟨tl⟩:=ts;simp only at dQ kR;subst dQ;subst kR;obtain⟨cs,du⟩:=zp (O:=O) (w:=w) (a:=a) ho;have C7:(execOp a.eval o).run O.P w=((do pure (.value (<-Builtin.append_ #[t,u] o.type #[a.eval x,a.eval y])):Sem yat)).run O.P w:=by
     rw[du];simp[builtin]
    have key:∀{z:AV} {sz by':Nat} {e:yu},O.P.underlying t=D5 (.slice e)->((∃e',O.P.underlying u=D5 (.slice e'))\/O.P.underlying u=D5 .string)->bU O.P e=D5 sz->sS O.P e=D5 by'->ll O.P e=D5 z->
      fB tm hp ct (bif yo (cellsOf z).length sz then .df sz by' (aI H x) (aI H y) else bad)=D5 (v,dz)->Rz O m S w a ct o v dz:=by
     intro z sz by' e h1 h2 h3 h4 h5 h
     cases hb:yo (cellsOf z).length sz with
     | false=>rw[hb] at h;exact (ib h).elim
     | true=>
      rw[hb] at h;exact akw hH ht hh C7 h1 h2 h3 h4 h5 (yf hb) h
    split at hv
    .rename_i e e' h1 h2
     split at hv
     .rename_i sz by' z h3 h4 h5
      exact key h1 (.inl ⟨_,h2⟩) h3 h4 h5 hv
     .exact (ib hv).elim
    .rename_i e h1 h2
     split at hv
     .rename_i sz by' z h3 h4 h5
      exact key h1 (.inr h2) h3 h4 h5 hv
     .exact (ib hv).elim
    .exact (ib hv).elim
   .repeat' split at hv
    all_goals simp[fB,bad] at hv
   .repeat' split at hv
    all_goals simp[fB,bad] at hv
   .simp [fB] at hv
   .simp [fB] at hv
   .simp [fB] at hv
   .simp [fB] at hv
   .simp [fB] at hv
   .exact (ib hv).elim
  .exact (ib hv).elim
 | next x b=>
  cases b<;>simp[aM,ho,fB,bad] at hv
 | binOp op t x y ty=>
  cases op<;>simp only[aM,ho,mR,nN] at hv
  case eql=>
        repeat' split at hv
        all_goals first
         | (simp[fB,bad] at hv;done)
         | (cases hb:(O.P.stoodInHeld t||O.P.eqGuardType O.P.depth t)<;>rw[hb] at hv<;>simp[fB,bad] at hv)
  case neq=>
        repeat' split at hv
        all_goals first
         | (simp[fB,bad] at hv;done)
         | (cases hb:(O.P.stoodInHeld t||O.P.eqGuardType O.P.depth t)<;>rw[hb] at hv<;>simp[fB,bad] at hv)
  all_goals simp[fB] at hv
 | buildSlice t n parts=>
  simp only[aM,ho] at hv
  repeat' split at hv
  all_goals first
   | (simp[fB,bad] at hv;done)
   | (
     revert hv;generalize yz _ _=bb;intro hv;cases bb<;>simp[fB,bad] at hv
     try (split at hv<;>simp[fB,bad] at hv))
 | makeMap t r=>
  cases r<;>simp only[aM,ho] at hv
  .repeat' split at hv
   all_goals simp[fB,bad] at hv
  .exact (ib hv).elim
 | _=>
  simp only[aM,ho] at hv
  (repeat' split at hv)
  all_goals first
   | contradiction
   | (simp[fB,bad] at hv;done)
end
end
end
section
open Go
section
variable {aX:Hp}{cap first ap z:List AV}{g k n sz:Nat}{P:xi}
section
variable {O:bk}{H:Hint}{m:Mp}{S:Nat->Prop}{w:yi}{tm:Env}{a:Act}{hp an Hq:Hp}{ct aK cH:Nat}{self:bZ}{ro:Option Nat}{next:Act->yi->Prop}{Q:vX->Act->yi->Prop}
def XR{g:tV}{p:Pl}{S':Nat->Prop}{base:Nat}(hh:aP O m S w Hq cH)(hi:m ct=D6)(hb:p.b=w.heap.size)(h1:∀b,S b->S' b)(h2:∀b,S' b->S b\/b=w.heap.size):
  bR m S w Hq (eR m ct p) S' (w.alloc g) Hq base where
 os:=rfl
 tape:=rfl
 output:=rfl
 size:=by simp
 same b hb _:=alloc_old hb
 sub:=h1
 still b hb:=alloc_old (hh.slt b hb)
 new b hb:=(h2 b hb).imp (fun h=>h) (fun h=>.inr (by lia))
 own b hb:=by
  have⟨i,o,q,g1,g2,g3⟩:=hb;by_cases hc:i=ct
  .subst hc;rw[c9] at g2
   grind
  .rw [dK hc] at g2;exact .inl ⟨i,o,q,g1,g2,g3⟩
 old i q _ h:=iQ hi i q h
 loops b r hb:=⟨r,(alloc_old (xo.1 hb).1).trans hb⟩
def Wx{MH:List AV}{us:List yg}(hz:cf deep hp MH=D5 (ap,aX))(hl:cz aX Hq)(hh:aP O m S w Hq cH)(hr:ax O.ab m S w MH us):ax O.ab eB S w ap us/\aD ap=ycG:=by
 have⟨_,_,h3⟩:=PC (O:=O) hz;have⟨k1,k2⟩:=h3 Hq m S w cH hl hh;exact⟨zu (fun _ h=>h) (fun _ _=>rfl) _ _ k2 (k1 us hr),k2⟩
def QZ(hh:aP O m S w Hq cH):Bs O w:=⟨hh.lB,hh.fk⟩
def Lt(hH:eF O H)(ht:bN O m S w tm a.tmps){f:xm}{args:Array xm}(hf:aw tm (aI H f)=.fn (.f g) first cap):
  ∃fi ca:Array yg,a.eval f=.func (.func (O.ab g)) fi ca/\ax O.ab m S w (first++(db tm (gH H args.toList)++cap)) (fi++args.map a.eval++ca).toList:=by
 have rf:=bO hH ht f;rw[hf] at rf;have⟨fi,ca,h1,h2,h3⟩:=rf;refine⟨fi,ca,h1,?_⟩
 have:=kX h2 (kX (CM hH ht args.toList) h3)
 simp_all
def ahH(hC:nO O self)(hH:eF O H){o:yP}{c:tJ}{f:xm}(ho:o.op=.call c)(iK:c.callee=.value f){r:AV}(hf:aw tm (aI H f)=.fn (.f g) first cap)(hz:cf deep hp (first++(db tm (gH H c.args.toList)++cap))=D5 (ap,aX))(hr:bQ O.prog O.aG self g ap=D5 r)(hl:cz aX Hq)(ht:bN O m S w tm a.tmps)(hh:aP O m S w Hq cH)(hn:∀u S' w',aP O m S' w' Hq cH->ae O.ab m S' w' (shut r) u->bR m S w Hq m S' w' Hq cH->next (a.put o.dst u) w'):o.wpIn (WF ro) 0 O.P a w next Q:=by
 have⟨fi,ca,h1,h2⟩:=Lt hH ht (args:=c.args) hf;have⟨h3,h4⟩:=Wx hz hl hh h2;refine KZ ho iK h1 (hC.pure g ap r hr w S _ (QZ hh) hh.slt h3 h4) ?_;rintro e w' ⟨u,S',rfl,hw,g1,g2,g3,g4⟩;refine⟨u,rfl,?_⟩;have⟨S2,k1,k2,k3⟩:=XN g4 m;have hS:∀b,S b->S2 b:=fun b hb=>k1 b (g1 b hb)
 have B0:∀b,S2 b->S b\/w.heap.size<=b:=fun b hb=>(k2 b hb).elim (g2 b) (fun h=>.inr h.1)
 have hl:∀b,S2 b->b<w'.heap.size:=fun b hb=>(k2 b hb).elim (g3 b) (fun h=>h.2)
 exact hn u S2 w' (AW hh hw hS B0 hl) k3 (zy hh hw hS B0)
def aiG(hC:nO O self)(hH:eF O H){o:yP}{c:tJ}{f:xm}(ho:o.op=.call c)(iK:c.callee=.value f){r:AV}(hf:aw tm (aI H f)=.fn (.f g) first cap)(hz:cf deep hp (first++(db tm (gH H c.args.toList)++cap))=D5 (ap,aX))(hr:bQ O.prog O.aG self g ap=D5 r)(hl:cz (own aX ct r).2.1 Hq)(fH:(own aX ct r).2.2<=cH)(aB:∀id o,ai hp id=D5 o->id<ct)(zb:∀id,ct<=id->id<(own aX ct r).2.2->m id=D6)(ht:bN O m S w tm a.tmps)(hh:aP O m S w Hq cH)(hn:∀u m' S' w',aP O m' S' w' Hq cH->cL m m'->(∀id p,m' id=D5 p->m id=D5 p\/(ct<=id/\id<(own aX ct r).2.2))->ae O.ab m' S' w' (own aX ct r).1 u->bR m S w Hq m' S' w' Hq cH->next (a.put o.dst u) w'):
  o.wpIn (WF ro) 0 O.P a w next Q:=by
 have⟨fi,ca,h1,h2⟩:=Lt hH ht (args:=c.args) hf;have⟨z1,z2,z3⟩:=PC (O:=O) hz;have SM:∀id o,ai aX id=D5 o->id<ct:=fun id o h=>by
  have:=z2 id
  rw[h] at this
  cases hq:ai hp id with
  | none=>rw[hq] at this;cases this
  | some q=>exact aB id q hq
 have ao2:∀id o,ai aX id=D5 o->ai (own aX ct r).2.1 id=D5 o:=fun id o h=>by
  cases r with
  | ay vs=>exact LP SM id o h
  | _=>exact QY SM id o h
 have ox:cz aX Hq:=fun id o h=>hl id o (ao2 id o h)
 have⟨h3,h4⟩:=Wx hz ox hh h2;refine KZ ho iK h1 (hC.pure g ap r hr w S _ (QZ hh) hh.slt h3 h4) ?_;rintro e w' ⟨u,S',rfl,hw,g1,g2,g3,g4⟩;refine⟨u,rfl,?_⟩;have B1:=AW hh hw g1 g2 g3;have BX:=zy (base:=cH) hh hw g1 g2;have⟨m',S2,k1,k2,k3,k4,k5,k6⟩:=ao0 (lo:=w.heap.size) B1 hl fH SM zb g4 hh.fk (fun j q hq=>hh.blt j q hq);refine hn u m' S2 w' k1 k2 (fun id p h=>(k3 id p h).imp (fun h=>h) (fun h=>⟨h.1,h.2.1⟩)) k4 ⟨hw.os,hw.tape,hw.output,hw.size,fun b hb _=>hw.same b hb,fun b hb=>k5 b (g1 b hb),fun b hb=>hw.same b (hh.slt b hb),?_,?_,fun i q _ h=>k2 i q h,BX.loops⟩
 .grind
 .rintro b ⟨i,ob,q,q1,q2,q3⟩;rcases k3 i q q2 with h | h
  .exact .inl ⟨i,ob,q,q1,h,q3⟩
  .grind
def ahI{H:Hint}{o:yP}{b:Nat}{x y:X}(hk:Op.pZ sz b x y=aM P H k o):False:=by
 cases ho:o.op with
 | call c=>
  have⟨callee,args,ts⟩:=c;simp only[aM,ho] at hk
  split at hk
  .rename_i f;cases hm:H.mode k<;>simp only[hm,reduceCtorEq] at hk
  .repeat' split at hk
   all_goals first
    | (cases hk;done)
    | (simp only[bad] at hk;cases hk;done)
    | (revert hk;generalize yo _ _=bb;intro hk;cases bb<;>simp[bad] at hk)
  .simp only [bad] at hk;cases hk
 | binOp op t x' y ty=>
  cases op<;>simp only[aM,ho,mR,nN] at hk
  case eql=>
        repeat' split at hk
        all_goals first
         | (cases hk;done)
         | (simp only[bad] at hk;cases hk;done)
         | (cases bm:(P.stoodInHeld t||P.eqGuardType P.depth t)<;>rw[bm] at hk<;>simp[bad] at hk)
  case neq=>
        repeat' split at hk
        all_goals first
         | (cases hk;done)
         | (simp only[bad] at hk;cases hk;done)
         | (cases bm:(P.stoodInHeld t||P.eqGuardType P.depth t)<;>rw[bm] at hk<;>simp[bad] at hk)
  all_goals cases hk
 | buildSlice t n parts=>
  simp only[aM,ho] at hk
  repeat' split at hk
  all_goals first
   | (cases hk;done)
   | (simp only[bad] at hk;cases hk;done)
   | (revert hk;generalize yz _ _=bb;intro hk;cases bb<;>simp[bad] at hk)
 | makeMap t r=>
  cases r<;>simp only[aM,ho] at hk
  .repeat' split at hk
   all_goals first
    | (cases hk;done)
    | (simp only[bad] at hk;cases hk;done)
  .simp only [bad] at hk;cases hk
 | next x' b=>
  cases b<;>simp only[aM,ho] at hk
  .simp only [bad] at hk;cases hk
  .cases hk
 | _=>
  simp only[aM,ho] at hk
  (repeat' split at hk)
  all_goals first
   | contradiction
   | (cases hk;done)
   | (simp only[bad] at hk;cases hk;done)
def ao3{H:Hint}{o:yP}{b:Nat}{x y:X}(hq:nh P H (.pZ sz b x y) o):∃k,Op.df sz b x y=aM P H k o:=by
 rcases hq with ⟨k,hk⟩ | ⟨_,_,_,_,_,h3⟩ | ⟨_,_,_,_,_,_,_,h3⟩ | ⟨_,_,_,_,_,_,_,h3⟩ | ⟨k,mE,b',x',y',h1,h3⟩ | ⟨_,_,_,_,_,_,h3⟩
 .exact (ahI hk).elim
 .cases h3
 .cases h3
 .cases h3
 .simp only [Op.pZ.injEq] at h3;obtain⟨rfl,rfl,rfl,rfl⟩:=h3;exact⟨k,h1⟩
 .cases h3
def ahJ{H:Hint}{o:yP}{ps:List (Nat×Nat×X)}(hk:Op.ol n sz z ps=aM P H k o):False:=by
 cases ho:o.op with
 | call c=>
  obtain⟨callee,args,ts⟩:=c;simp only[aM,ho] at hk
  split at hk
  .rename_i f;cases hm:H.mode k<;>simp only[hm,reduceCtorEq] at hk
  .repeat' split at hk
   all_goals first
    | (cases hk;done)
    | (simp only[bad] at hk;cases hk;done)
    | (revert hk;generalize yo _ _=bb;intro hk;cases bb<;>simp[bad] at hk)
  .simp only [bad] at hk;cases hk
 | binOp op t x' y ty=>
  cases op<;>simp only[aM,ho,mR,nN] at hk
  case eql=>
        repeat' split at hk
        all_goals first
         | (cases hk;done)
         | (simp only[bad] at hk;cases hk;done)
         | (cases bm:(P.stoodInHeld t||P.eqGuardType P.depth t)<;>rw[bm] at hk<;>simp[bad] at hk)
  case neq=>
        repeat' split at hk
        all_goals first
         | (cases hk;done)
         | (simp only[bad] at hk;cases hk;done)
         | (cases bm:(P.stoodInHeld t||P.eqGuardType P.depth t)<;>rw[bm] at hk<;>simp[bad] at hk)
  all_goals cases hk
 | buildSlice t n parts=>
  simp only[aM,ho] at hk
  repeat' split at hk
  all_goals first
   | (cases hk;done)
   | (simp only[bad] at hk;cases hk;done)
   | (revert hk;generalize yz _ _=bb;intro hk;cases bb<;>simp[bad] at hk)
 | makeMap t r=>
  cases r<;>simp only[aM,ho] at hk
  .repeat' split at hk
   all_goals first
    | (cases hk;done)
    | (simp only[bad] at hk;cases hk;done)
  .simp only [bad] at hk;cases hk
 | next x' b=>
  cases b<;>simp only[aM,ho] at hk
  .simp only [bad] at hk;cases hk
  .cases hk
 | _=>
  simp only[aM,ho] at hk
  (repeat' split at hk)
  all_goals first
   | contradiction
   | (cases hk;done)
   | (simp only[bad] at hk;cases hk;done)
def ao4{H:Hint}{o:yP}{ps:List (Nat×Nat×X)}(hq:nh P H (.ol n sz z ps) o):∃k,Op.iY n sz z ps=aM P H k o:=by
 rcases hq with ⟨k,hk⟩ | ⟨_,_,_,_,_,h3⟩ | ⟨_,_,_,_,_,_,_,h3⟩ | ⟨_,_,_,_,_,_,_,h3⟩ | ⟨_,_,_,_,_,_,h3⟩ | ⟨k,n',mE,z',ps',h1,h3⟩
 .exact (ahJ hk).elim
 .cases h3
 .cases h3
 .cases h3
 .cases h3
 .simp only [Op.ol.injEq] at h3;obtain⟨rfl,rfl,rfl,rfl⟩:=h3;exact⟨k,h1⟩
def ao5(hH:eF O H)(ht:bN O m S w tm a.tmps)(hh:aP O m S w hp ct){o:yP}{ps:List (Nat×Nat×X)}{v:AV}{hp0:Hp}(gg:Op.iY n sz z ps=aM O.P H k o)(hv:a7 tm hp0 (.ol n sz z ps)=D5 v):
  ∃u g,(execOp a.eval o).run O.P w=.ok (.value u) (w.alloc g)/\∀S':Nat->Prop,(∀b,S b->S' b)->S' w.heap.size->ae O.ab m S' (w.alloc g) v u:=by
 simp only[a7] at hv
 cases hf:fill tm z ps with
 | none=>simp[hf] at hv
 | some cs=>
  simp only[hf] at hv
  cases hc:(yo cs.length (n*sz)&&(yF 0 sz&&aD cs)) with
  | false=>rw[hc] at hv;cases hv
  | true=>
   rw[hc] at hv;simp only[yr,yb] at hv;subst hv;simp only[ye] at hc;obtain⟨c1,c2,c3⟩:=hc;have c1':=yf c1;have c2':=oY.1 c2;have hi:m ct=D6:=by
    cases hm:m ct with
    | none=>rfl
    | some p=>have:=hh.lt ct p hm;omega
   have cd:cg tm hp ct (aM O.P H k o)=D5 (.av ct 0 n,.cells ycG ycG ycG sz cs):=by
    rw[<-gg];simp only[cg,hf,c1,yr,c3]
   obtain⟨u,g,p,h1,h2,h3,h4⟩:=ZI hH ht hh cd;refine⟨u,g,h1,fun S' hS hSn=>?_⟩;obtain⟨ho,hr⟩:=h4 (eR m ct p) (iQ hi) c9;simp only[eH] at ho;obtain⟨q,arr,t,g1,g2,g3,g4,g5,g6,g7,g8,_⟩:=ho;rw[c9] at g1;injection g1 with g1
   subst g1;simp only[ae,c9,yb] at hr;obtain⟨q,c,rfl,rfl,r3,r4⟩:=hr;simp only[ae];refine .inl ⟨_,_,c,rfl,r3,fun _=>?_,.inr (by rw[h2];exact hSn),c3,?_⟩
   .have e:=g6 trivial;rw[<-e,c1',g3,yd] at r4;exact uy c2' r4
   .rw [yS];exact AP hS (fun _ _=>rfl) cs _ _ c3 rfl g7
def quiet_step(hC:nO O self)(hH:eF O H){o:yP}{q:Op}{v:AV}(hk:bf q<=1)(hq:nh O.P H q o)(hd:∀c,o.op≠.defer c)(hv:aW O.prog O.aG self tm hp ct q=D5 (v,an,aK))(hl:cz an Hq)(fH:aK<=cH)(aB:∀id o,ai hp id=D5 o->id<ct)(zb:∀id,ct<=id->id<aK->m id=D6)(ht:bN O m S w tm a.tmps)(hh:aP O m S w Hq cH)(hn:∀u m' S' w',aP O m' S' w' Hq cH->cL m m'->(∀id p,m' id=D5 p->m id=D5 p\/(ct<=id/\id<aK))->ae O.ab m' S' w' v u->bR m S w Hq m' S' w' Hq cH->next (a.put o.dst u) w'):
  o.wpIn (WF ro) 0 O.P a w next Q:=by
 by_cases DI:∃sz b x y,q=.pZ sz b x y
 .obtain ⟨sz,b,x,y,rfl⟩:=DI;obtain⟨k,gg⟩:=ao3 hq;simp only[aW] at hv
  cases hm:sc hp ct sz b (aw tm x) (iq hp sz (aw tm y)) with
  | none=>simp[hm] at hv
  | some r=>
   obtain⟨v1,dz⟩:=r;simp only[hm,yb,yj] at hv;obtain⟨rfl,rfl,rfl⟩:=hv;have kA:cz hp Hq:=fun id o' iH=>hl id o' (by
    rw[eO,yx (by have:=aB id o' iH;omega)];exact iH)
   have bq:fB tm Hq ct (aM O.P H k o)=D5 (v1,dz):=by rw[<-gg];exact akx kA hm
   have hi:=zb ct (yq _) (tQ _);obtain⟨u,g,p,h1,h2,h3,h4⟩:=ao1 hH ht hh bq;have J4:Calm w w.drew:=⟨rfl,rfl,rfl,yq _,fun _ _=>rfl⟩;have gS:=AW hh J4 (S':=S) (fun _ h=>h) (fun _ h=>.inl h) hh.slt;have Fz:bR m S w Hq m S w.drew Hq cH:=zy hh J4 (fun _ h=>h) (fun _ h=>.inl h);obtain⟨S',k1,k2,k3⟩:=Qo (i:=ct) (g:=g) (p:=p) gS hi fH h2 (fun o' iH=>by
    obtain⟨Us,g1,g2⟩:=hl ct dz (by rw[eO];simp)
    rw[iH] at g1;injection g1 with g1
    subst g1
    have:=Pu g2 c9 (h4 _ (iQ hi) c9).1 h3
    rwa[h2] at this)
   refine Ez hd h1 (.inl rfl) (hn u _ S' _ k1 (iQ hi) (fun id q hq=>?_) (kZ (fun _ _ h=>h) k2 (fun _ _=>rfl) _ _ (h4 _ (iQ hi) c9).2) (Fz.trans (XR gS hi h2 k2 k3)));by_cases hc:id=ct
   .exact .inr (by omega)
   .rw [dK hc] at hq;exact .inl hq
 by_cases B2:∃n sz z ps,q=.ol n sz z ps
 .obtain ⟨n,sz,z,ps,rfl⟩:=B2;obtain⟨k,gg⟩:=ao4 hq;simp only[aW] at hv
  cases hm:a7 tm hp (.ol n sz z ps) with
  | none=>simp[hm] at hv
  | some r=>
   simp only[hm,yb,yj] at hv;obtain⟨rfl,rfl,rfl⟩:=hv;obtain⟨u,g,h1,h2⟩:=ao5 hH ht hh gg hm;have J4:Calm w (w.alloc g):=⟨rfl,rfl,rfl,by simp,fun b hb=>alloc_old hb⟩
   let S':Nat->Prop:=fun b=>S b\/b=w.heap.size
   have hS:∀b,S b->S' b:=fun b hb=>.inl hb
   have B0:∀b,S' b->S b\/w.heap.size<=b:=fun b hb=>hb.imp id (fun e=>by omega)
   have rq:∀b,S' b->b<(w.alloc g).heap.size:=fun b hb=>by
    rcases hb with hb | hb
    .have:=hh.slt b hb;simp;omega
    .subst hb;simp
   refine Ez hd h1 (.inl rfl) (hn u m S' _ (AW hh J4 hS B0 rq) cL.refl (fun _ _ h=>.inl h) (h2 S' hS (.inr rfl)) (zy hh J4 hS B0))
 have gg:∃k,q=aM O.P H k o:=by
  rcases hq with h | ⟨c,f,rs,_,_,rfl⟩ | ⟨_,_,_,_,_,_,_,rfl⟩ | ⟨_,_,_,_,_,_,_,rfl⟩ | ⟨_,_,_,_,_,_,h⟩ | ⟨_,_,_,_,_,_,h⟩
  .exact h
  .simp [bf] at hk
  .simp [bf] at hk
  .simp [bf] at hk
  .exact (DI ⟨_,_,_,_,h⟩).elim
  .exact (B2 ⟨_,_,_,_,h⟩).elim
 obtain⟨k,hq⟩:=gg;have read:∀{v:AV},a7 tm hp q=D5 v->cz hp Hq->(∀u m' S' w',aP O m' S' w' Hq cH->cL m m'->(∀id p,m' id=D5 p->m id=D5 p\/(ct<=id/\id<aK))->ae O.ab m' S' w' v u->bR m S w Hq m' S' w' Hq cH->next (a.put o.dst u) w')->o.wpIn (WF ro) 0 O.P a w next Q:=by
  intro v hr hl hn;have bq:=aiz hl hr;rw[hq] at bq;obtain⟨u,h1,h2⟩:=ZG hH ht hh bq;exact Ez hd h1 (.inl rfl) (hn u m S w hh cL.refl (fun _ _ h=>.inl h) h2 bR.refl)
 have makes:∀{v:AV} {b:Obj},cg tm hp ct q=D5 (v,b)->cz ((ct,b)::hp) Hq->ct+1<=cH->m ct=D6->(∀u m' S' w',aP O m' S' w' Hq cH->cL m m'->(∀id p,m' id=D5 p->m id=D5 p\/(ct<=id/\id<ct+1))->ae O.ab m' S' w' v u->bR m S w Hq m' S' w' Hq cH->next (a.put o.dst u) w')->o.wpIn (WF ro) 0 O.P a w next Q:=by
  intro v b hr hl hc hi hn;rw[hq] at hr;have bq:cg tm Hq ct (aM O.P H k o)=D5 (v,b):=by rw[<-hr];exact G3 (fun _ _=>rfl)
  obtain⟨u,g,p,h1,h2,h3,h4⟩:=ZI hH ht hh bq;obtain⟨S',k1,k2,k3⟩:=Qo (i:=ct) (g:=g) (p:=p) hh hi hc h2 (fun o' iH=>by
   obtain⟨Us,g1,g2⟩:=hl ct b (by rw[eO];simp)
   rw[iH] at g1;injection g1 with g1
   subst g1
   have:=Pu g2 c9 (h4 _ (iQ hi) c9).1 h3
   rwa[h2] at this)
  refine Ez hd h1 (.inl rfl) (hn u _ S' _ k1 (iQ hi) (fun id q hq=>?_) (kZ (fun _ _ h=>h) k2 (fun _ _=>rfl) _ _ (h4 _ (iQ hi) c9).2) (XR hh hi h2 k2 k3));by_cases hc:id=ct
  .exact .inr (by omega)
  .rw [dK hc] at hq;exact .inl hq
 have cd:∀{q:Op},(match cg tm hp ct q with | some (v,b)=>D5 (v,(ct,b)::hp,ct+1) | none=>(D6:fY))=D5 (v,an,aK)->∃b,cg tm hp ct q=D5 (v,b)/\an=(ct,b)::hp/\aK=ct+1:=by
  intro q h
  cases hm:cg tm hp ct q with
  | none=>simp[hm] at h
  | some r=>
   obtain⟨v1,b⟩:=r;simp only[hm,yb,yj] at h;obtain⟨rfl,rfl,rfl⟩:=h;exact⟨b,rfl,rfl,rfl⟩
 have fb:∀{q:Op},(match a7 tm hp q with | some v=>D5 (v,hp,ct) | none=>(D6:fY))=D5 (v,an,aK)->a7 tm hp q=D5 v/\an=hp/\aK=ct:=by
  intro q h
  cases hm:a7 tm hp q with
  | none=>simp[hm] at h
  | some r=>
   simp only[hm,yb,yj] at h;obtain⟨rfl,rfl,rfl⟩:=h;exact⟨rfl,rfl,rfl⟩
 have HL:(∃b,cg tm hp ct q=D5 (v,b)/\an=(ct,b)::hp/\aK=ct+1)->o.wpIn (WF ro) 0 O.P a w next Q:=by
  rintro⟨b,h1,rfl,rfl⟩;exact makes h1 hl fH (zb ct (yq _) (tQ _)) hn
 have ao6:(a7 tm hp q=D5 v/\an=hp/\aK=ct)->o.wpIn (WF ro) 0 O.P a w next Q:=by
  rintro⟨h1,rfl,rfl⟩;exact read h1 hl hn
 cases q with
 | st _ _ _=>simp[bf] at hk
 | pW _ _ _ _=>simp[bf] at hk
 | pY _=>simp[bf] at hk
 | df _ _ _ _=>simp[bf] at hk
 | p6 _ _ _=>simp[bf] at hk
 | iS _ _ _=>simp[bf] at hk
 | kx _ _ _ _=>simp[bf] at hk
 | kQ _ _ _ _ _=>simp[bf] at hk
 | pZ sz b x y=>exact (DI ⟨sz,b,x,y,rfl⟩).elim
 | box s x=>exact HL (cd (by simp only[aW] at hv;exact hv))
 | iY n s z ps=>exact HL (cd (by simp only[aW] at hv;exact hv))
 | oh s b z x y=>exact HL (cd (by simp only[aW] at hv;exact hv))
 | Ao=>exact HL (cd (by simp only[aW] at hv;exact hv))
 | pX x=>exact HL (cd (by simp only[aW] at hv;exact hv))
 | call md x xs=>
  cases md with
  | heap=>simp[bf] at hk
  | dyn=>simp[bf] at hk
  | pure=>
   simp only[aW,eb] at hv
   split at hv
   .rename_i g first cap hx
    (try simp only at hv)
    cases hz:cf deep hp (first++(db tm xs++cap)) with
    | none=>simp[hz] at hv
    | some z=>
     obtain⟨ap,aX⟩:=z;simp only[hz] at hv
     cases hr:bQ O.prog O.aG self g ap with
     | none=>simp[hr] at hv
     | some r=>
      simp only[hr,yb,yj] at hv;obtain⟨rfl,rfl,rfl⟩:=hv;obtain⟨c,f,ho,iK,rfl,rfl⟩:=LQ hq.symm (by rintro rfl;simp[aw] at hx);exact ahH hC hH ho iK hx hz hr hl ht hh (fun u S' w' h1 h2 h3=>hn u m S' w' h1 cL.refl (fun _ _ h=>.inl h) h2 h3)
   .simp at hv
   .cases hv
  | own=>
   simp only[aW,eb] at hv
   split at hv
   .rename_i g first cap hx
    (try simp only at hv)
    cases hz:cf deep hp (first++(db tm xs++cap)) with
    | none=>simp[hz] at hv
    | some z=>
     obtain⟨ap,aX⟩:=z;simp only[hz] at hv
     cases hr:bQ O.prog O.aG self g ap with
     | none=>simp[hr] at hv
     | some r=>
      simp only[hr,yb] at hv;obtain⟨c,f,ho,iK,rfl,rfl⟩:=LQ hq.symm (by rintro rfl;simp[aw] at hx);have e1:v=(own aX ct r).1:=by rw[hv]
      have e2:an=(own aX ct r).2.1:=by rw[hv]
      have e3:aK=(own aX ct r).2.2:=by rw[hv]
      subst e1;subst e2;subst e3;exact aiG hC hH ho iK hx hz hr hl fH aB zb ht hh hn
   .simp at hv
   .cases hv
 | _=>exact ao6 (fb (by simp only[aW] at hv;exact hv))
end
end
end
section
open Go
section
variable {r v:AV}{b sz:Nat}{q:Op}{P:xi}{x y:X}
section
variable {O:bk}{H:Hint}{m:Mp}{S:Nat->Prop}{w:yi}{tm:Env}{a:Act}{hp an:Hp}{ct aK:Nat}{self:bZ}{ro:Option Nat}{next:Act->yi->Prop}{Q:vX->Act->yi->Prop}
def bR.so{m':Mp}{S':Nat->Prop}{w':yi}{b':Nat}(h:bR m S w hp m' S' w' an b)(hb:b'<=b):bR m S w hp m' S' w' an b':=
 ⟨h.os,h.tape,h.output,h.size,h.same,h.sub,h.still,h.new,h.own,fun i q hi hq=>h.old i q (by lia) hq,h.loops⟩
def ao7{hp:Hp}{ct:Nat}(aB:∀id o,ai hp id=D5 o->id<ct):∀id o,ai (own hp ct r).2.1 id=D5 o->id<(own hp ct r).2.2:=by
 have hL:∀(vs:List AV) (hp:Hp) (ct:Nat),(∀id o,ai hp id=D5 o->id<ct)->∀id o,ai (jK hp ct vs).2.1 id=D5 o->id<(jK hp ct vs).2.2:=by
  intro vs
  induction vs with
  | nil=>intro hp ct h id o ho;exact h id o ho
  | cons v r ih=>intro hp ct h id o ho;exact ih _ _ (Hz h) id o ho
 cases r with
 | ay vs=>exact hL vs hp ct aB
 | _=>exact Hz aB
def ao8{hp:Hp}{ct:Nat}(aB:∀id o,ai hp id=D5 o->id<ct):∀id o,ai hp id=D5 o->ai (own hp ct r).2.1 id=D5 o:=by
 cases r with
 | ay vs=>exact LP aB
 | _=>exact QY aB
def ao9{hp:Hp}{ct:Nat}:ct<=(own hp ct r).2.2:=by
 cases r with
 | ay vs=>exact LO
 | _=>exact LN
def aky{hp:Hp}{ct:Nat}:∀id o,ai (own hp ct r).2.1 id=D5 o->id<ct->ai hp id=D5 o:=by
 have h1:∀(hp:Hp) (ct:Nat) (r:AV) id o,ai (eQ hp ct r).2.1 id=D5 o->id<ct->ai hp id=D5 o:=by
  intro hp ct r id o h hc;cases r<;>simp only[eQ] at h<;>try exact h
  rw[eO,yx (by lia)] at h;exact h
 have hL:∀(vs:List AV) (hp:Hp) (ct:Nat) id o,ai (jK hp ct vs).2.1 id=D5 o->id<ct->ai hp id=D5 o:=by
  intro vs
  induction vs with
  | nil=>intro hp ct id o ho _;exact ho
  | cons v r ih=>intro hp ct id o ho hc;exact h1 hp ct v id o (ih _ _ id o ho (by have:=LN (hp:=hp) (ct:=ct) (r:=v);lia)) hc
 cases r with
 | ay vs=>exact hL vs hp ct
 | _=>exact h1 hp ct _
structure iv(hp:Hp)(ct:Nat)(an:Hp)(aK:Nat):Prop where
 le:cz hp an
 qc:ct<=aK
 lt:∀id o,ai an id=D5 o->id<aK
 back:∀id o,ai an id=D5 o->id<ct->∃o',ai hp id=D5 o'
def iv.refl(aB:∀id o,ai hp id=D5 o->id<ct):iv hp ct hp ct:=⟨cz.refl,yq _,aB,fun _ o h _=>⟨o,h⟩⟩
def iv.trans{IU:Hp}{acI:Nat}(h:iv hp ct an aK)(k:iv an aK IU acI):iv hp ct IU acI:=
 ⟨h.le.trans k.le,y9 h.qc k.qc,k.lt,fun id o ho hi=>let ⟨o1,h1⟩:=k.back id o ho (yE hi h.qc);h.back id o1 h1 hi⟩
def XS{MH ap:List AV}{aX:Hp}(hz:cf deep hp MH=D5 (ap,aX))(aB:∀id o,ai hp id=D5 o->id<ct):iv hp ct aX ct:=by
 have⟨z1,z2,_⟩:=PC (O:=⟨default,⟨fun _=>D6,fun _=>D6⟩,fun _=>0,fun _=>D6,fun _=>⟨0,fun _=>D6,fun _=>[],fun _=>D6,fun _=>.pure,fun _=>[]⟩,default⟩) hz;have hb:∀id o,ai aX id=D5 o->∃o',ai hp id=D5 o':=fun id o h=>by
  have:=z2 id
  rw[h] at this
  cases hq:ai hp id with
  | none=>rw[hq] at this;cases this
  | some q=>exact⟨q,rfl⟩
 exact⟨z1,yq _,fun id o h=>let ⟨o',h'⟩:=hb id o h;aB id o' h',fun id o h _=>hb id o h⟩
def aiH(aB:∀id o,ai hp id=D5 o->id<ct):iv hp ct (own hp ct r).2.1 (own hp ct r).2.2:=
 ⟨fun id o h=>⟨o,ao8 aB id o h,iI.refl o⟩,ao9,ao7 aB,fun id o h hi=>⟨o,aky id o h hi⟩⟩
def Wy{P:aE}{L:Lib}(hk:bf q<=1)(hv:aW P L self tm hp ct q=D5 (v,an,aK))(aB:∀id o,ai hp id=D5 o->id<ct):iv hp ct an aK:=by
 have cd:∀{q:Op},(match cg tm hp ct q with | some (v,b)=>D5 (v,(ct,b)::hp,ct+1) | none=>(D6:fY))=D5 (v,an,aK)->iv hp ct an aK:=by
  intro q h
  cases hm:cg tm hp ct q with
  | none=>simp[hm] at h
  | some r=>
   have⟨v1,b⟩:=r;simp only[hm,yb,yj] at h;obtain⟨rfl,rfl,rfl⟩:=h;refine⟨fun id o ho=>⟨o,?_,iI.refl o⟩,by lia,fun id o ho=>?_,fun id o ho hi=>?_⟩
   .rw [eO,yx (by have:=aB id o ho;lia)];exact ho
   .rw [eO] at ho;by_cases hc:ct=id
    .lia
    .simp only [hc,xq] at ho;have:=aB id o ho;lia
   .rw [eO,yx (by lia)] at ho;exact⟨o,ho⟩
 have fb:∀{q:Op},(match a7 tm hp q with | some v=>D5 (v,hp,ct) | none=>(D6:fY))=D5 (v,an,aK)->iv hp ct an aK:=by
  intro q h
  cases hm:a7 tm hp q with
  | none=>simp[hm] at h
  | some r=>
   simp only[hm,yb,yj] at h;obtain⟨rfl,rfl,rfl⟩:=h;exact iv.refl aB
 cases bE:q with
 | st _ _ _=>simp[bE,bf] at hk
 | pW _ _ _ _=>simp[bE,bf] at hk
 | pY _=>simp[bE,bf] at hk
 | df _ _ _ _=>simp[bE,bf] at hk
 | p6 _ _ _=>simp[bE,bf] at hk
 | iS _ _ _=>simp[bE,bf] at hk
 | kx _ _ _ _=>simp[bE,bf] at hk
 | kQ _ _ _ _ _=>simp[bE,bf] at hk
 | pZ sz b x y=>
  rw[bE] at hv;simp only[aW] at hv
  cases hm:sc hp ct sz b (aw tm x) (iq hp sz (aw tm y)) with
  | none=>simp[hm] at hv
  | some r=>
   have⟨v1,b⟩:=r;simp only[hm,yb,yj] at hv;obtain⟨rfl,rfl,rfl⟩:=hv;refine⟨fun id o ho=>⟨o,?_,iI.refl o⟩,by lia,fun id o ho=>?_,fun id o ho hi=>?_⟩
   .rw [eO,yx (by have:=aB id o ho;lia)];exact ho
   .rw [eO] at ho;by_cases hc:ct=id
    .lia
    .simp only [hc,xq] at ho;have:=aB id o ho;lia
   .rw [eO,yx (by lia)] at ho;exact⟨o,ho⟩
 | box s x=>exact cd (q:=q) (by rw[bE] at hv ⊢;simp only[aW] at hv;exact hv)
 | iY n s z ps=>exact cd (q:=q) (by rw[bE] at hv ⊢;simp only[aW] at hv;exact hv)
 | oh s b z x y=>exact cd (q:=q) (by rw[bE] at hv ⊢;simp only[aW] at hv;exact hv)
 | Ao=>exact cd (q:=q) (by rw[bE] at hv ⊢;simp only[aW] at hv;exact hv)
 | pX x=>exact cd (q:=q) (by rw[bE] at hv ⊢;simp only[aW] at hv;exact hv)
 | call md x xs=>
  subst bE;simp only[aW,eb] at hv
  split at hv
  .rename_i g first cap hx
   cases md with
   | heap=>simp[bf] at hk
   | dyn=>simp[bf] at hk
   | pure=>
    simp only at hv
    cases hz:cf deep hp (first++(db tm xs++cap)) with
    | none=>simp[hz] at hv
    | some z=>
     have⟨ap,aX⟩:=z;simp only[hz] at hv
     cases hr:bQ P L self g ap with
     | none=>simp[hr] at hv
     | some r=>
      simp only[hr,yb,yj] at hv;obtain⟨rfl,rfl,rfl⟩:=hv;exact XS hz aB
   | own=>
    simp only at hv
    cases hz:cf deep hp (first++(db tm xs++cap)) with
    | none=>simp[hz] at hv
    | some z=>
     have⟨ap,aX⟩:=z;simp only[hz] at hv
     cases hr:bQ P L self g ap with
     | none=>simp[hr] at hv
     | some r=>
      simp only[hr,yb] at hv;have e2:an=(own aX ct r).2.1:=by rw[hv]
      have e3:aK=(own aX ct r).2.2:=by rw[hv]
      subst e2;subst e3;have g1:=XS hz aB;exact g1.trans (aiH g1.lt)
  .cases md with
   | heap=>simp[bf] at hk
   | dyn=>simp[bf] at hk
   | _=>simp at hv
  .cases hv
 | _=>exact fb (q:=q) (by rw[bE] at hv ⊢;simp only[aW] at hv;exact hv)
def Lu(hh:aP O m S w hp ct)(hg:iv hp ct an aK):∃S',aP O m S' w an aK/\(∀b,S b->S' b)/\(∀b,S' b->S b\/dI m hp b)/\∀base,bR m S w hp m S' w an base:=by
 have hd:∀id o p,ai an id=D5 o->m id=D5 p->∃o',ai hp id=D5 o':=fun id o p h hm=>hg.back id o h (hh.lt id p hm)
 have⟨S',g1,g2,g3⟩:=ZH hh hg.le hd hg.qc hg.lt;refine⟨S',g1,g2,g3,fun base=>⟨rfl,rfl,rfl,yq _,fun _ _ _=>rfl,g2,fun _ _=>rfl,fun b hb=>(g3 b hb).imp (fun h=>h) .inl,?_,fun _ _ _ h=>h,fun _ r h=>⟨r,h⟩⟩⟩;rintro b ⟨i,o,p,h1,h2,h3⟩;have⟨o',h4⟩:=hd i o p h1 h2;exact .inl ⟨i,o',p,h4,h2,h3⟩
def akz(hv:bV tm hp ct q=D5 (v,an,aK)):ct<=aK:=by
 cases q<;>simp only[bV,reduceCtorEq] at hv
 all_goals
  grind
def Qr{H:Hint}{o:yP}{rs:List (Nat×Bool×Nat)}{xs:List X}(hq:nh P H (.iS rs x xs) o):∃c f,o.op=.call c/\c.callee=.value f/\x=aI H f/\xs=gH H c.args.toList:=by
 rcases hq with ⟨k,hk⟩ | ⟨c,f,rs',h1,h2,h3⟩ | ⟨_,_,_,_,_,_,_,h3⟩ | ⟨_,_,_,_,_,_,_,h3⟩ | ⟨_,_,_,_,_,_,h3⟩ | ⟨_,_,_,_,_,_,h3⟩
 .cases ho:o.op with
  | call c=>
   obtain⟨callee,args,ts⟩:=c;simp only[aM,ho] at hk
   split at hk
   .rename_i f;cases hm:H.mode k<;>simp only[hm,Op.iS.injEq,reduceCtorEq] at hk
    exact⟨_,f,rfl,rfl,hk.2.1,hk.2.2⟩
   .repeat' split at hk
    all_goals first
     | (cases hk;done)
     | (simp only[bad] at hk;cases hk;done)
     | (revert hk;generalize yo _ _=bb;intro hk;cases bb<;>simp[bad] at hk)
   .simp only [bad] at hk;cases hk
  | binOp op t x' y ty=>
   cases op<;>simp only[aM,ho,mR,nN] at hk
   case eql=>
         repeat' split at hk
         all_goals first
          | (cases hk;done)
          | (simp only[bad] at hk;cases hk;done)
          | (cases bm:(P.stoodInHeld t||P.eqGuardType P.depth t)<;>rw[bm] at hk<;>simp[bad] at hk)
   case neq=>
         repeat' split at hk
         all_goals first
          | (cases hk;done)
          | (simp only[bad] at hk;cases hk;done)
          | (cases bm:(P.stoodInHeld t||P.eqGuardType P.depth t)<;>rw[bm] at hk<;>simp[bad] at hk)
   all_goals cases hk
  | buildSlice t n parts=>
   simp only[aM,ho] at hk
   repeat' split at hk
   all_goals first
    | (cases hk;done)
    | (simp only[bad] at hk;cases hk;done)
    | (revert hk;generalize yz _ _=bb;intro hk;cases bb<;>simp[bad] at hk)
  | makeMap t r=>
   cases r<;>simp only[aM,ho] at hk
   .repeat' split at hk
    all_goals first
     | (cases hk;done)
     | (simp only[bad] at hk;cases hk;done)
   .simp only [bad] at hk;cases hk
  | next x' b=>
   cases b<;>simp only[aM,ho] at hk
   .simp only [bad] at hk;cases hk
   .cases hk
  | _=>
   simp only[aM,ho] at hk
   (repeat' split at hk)
   all_goals first
    | contradiction
    | (cases hk;done)
    | (simp only[bad] at hk;cases hk;done)
 .simp only [Op.iS.injEq] at h3;exact⟨c,f,h1,h2,h3.2.1,h3.2.2⟩
 .cases h3
 .cases h3
 .cases h3
 .cases h3
def ahK{H:Hint}{o:yP}{k:Nat}{rs:List (Nat×Bool×Nat)}(hk:Op.kx rs sz x y=aM P H k o):False:=by
 cases ho:o.op with
 | call c=>
  have⟨callee,args,ts⟩:=c;simp only[aM,ho] at hk
  split at hk
  .grind
  .repeat' split at hk
   all_goals first
    | (cases hk;done)
    | (simp only[bad] at hk;cases hk;done)
    | (revert hk;generalize yo _ _=bb;intro hk;cases bb<;>simp[bad] at hk)
  .simp only [bad] at hk;cases hk
 | binOp op t x' y ty=>
  cases op<;>simp only[aM,ho,mR,nN] at hk
  case eql=>
        repeat' split at hk
        all_goals first
         | (cases hk;done)
         | (simp only[bad] at hk;cases hk;done)
         | (cases bm:(P.stoodInHeld t||P.eqGuardType P.depth t)<;>rw[bm] at hk<;>simp[bad] at hk)
  case neq=>
        repeat' split at hk
        all_goals first
         | (cases hk;done)
         | (simp only[bad] at hk;cases hk;done)
         | (cases bm:(P.stoodInHeld t||P.eqGuardType P.depth t)<;>rw[bm] at hk<;>simp[bad] at hk)
  all_goals cases hk
 | buildSlice t n parts=>
  simp only[aM,ho] at hk
  repeat' split at hk
  all_goals first
   | (cases hk;done)
   | (simp only[bad] at hk;cases hk;done)
   | (revert hk;generalize yz _ _=bb;intro hk;cases bb<;>simp[bad] at hk)
 | makeMap t r=>
  cases r<;>simp only[aM,ho] at hk
  .repeat' split at hk
   all_goals first
    | (cases hk;done)
    | (simp only[bad] at hk;cases hk;done)
  .simp only [bad] at hk;cases hk
 | next x' b=>
  cases b<;>simp only[aM,ho] at hk
  .simp only [bad] at hk;cases hk
  .cases hk
 | _=>
  simp only[aM,ho] at hk
  (repeat' split at hk)
  all_goals first
   | contradiction
   | (cases hk;done)
   | (simp only[bad] at hk;cases hk;done)
def ahL{H:Hint}{o:yP}{k:Nat}{rs:List (Nat×Bool×Nat)}(hk:Op.kQ rs sz b x y=aM P H k o):False:=by
 cases ho:o.op with
 | call c=>
  have⟨callee,args,ts⟩:=c;simp only[aM,ho] at hk
  split at hk
  .rename_i f;cases hm:H.mode k<;>simp only[hm,reduceCtorEq] at hk
  .repeat' split at hk
   all_goals first
    | (cases hk;done)
    | (simp only[bad] at hk;cases hk;done)
    | (revert hk;generalize yo _ _=bb;intro hk;cases bb<;>simp[bad] at hk)
  .simp only [bad] at hk;cases hk
 | binOp op t x' y ty=>
  cases op<;>simp only[aM,ho,mR,nN] at hk
  case eql=>
        repeat' split at hk
        all_goals first
         | (cases hk;done)
         | (simp only[bad] at hk;cases hk;done)
         | (cases bm:(P.stoodInHeld t||P.eqGuardType P.depth t)<;>rw[bm] at hk<;>simp[bad] at hk)
  case neq=>
        repeat' split at hk
        all_goals first
         | (cases hk;done)
         | (simp only[bad] at hk;cases hk;done)
         | (cases bm:(P.stoodInHeld t||P.eqGuardType P.depth t)<;>rw[bm] at hk<;>simp[bad] at hk)
  all_goals cases hk
 | buildSlice t n parts=>
  simp only[aM,ho] at hk
  repeat' split at hk
  all_goals first
   | (cases hk;done)
   | (simp only[bad] at hk;cases hk;done)
   | (revert hk;generalize yz _ _=bb;intro hk;cases bb<;>simp[bad] at hk)
 | makeMap t r=>
  cases r<;>simp only[aM,ho] at hk
  .repeat' split at hk
   all_goals first
    | (cases hk;done)
    | (simp only[bad] at hk;cases hk;done)
  .simp only [bad] at hk;cases hk
 | next x' b=>
  cases b<;>simp only[aM,ho] at hk
  .simp only [bad] at hk;cases hk
  .cases hk
 | _=>
  simp only[aM,ho] at hk
  (repeat' split at hk)
  all_goals first
   | contradiction
   | (cases hk;done)
   | (simp only[bad] at hk;cases hk;done)
def as3{H:Hint}{o:yP}(hq:nh P H (.st sz x y) o):∃t x' y',o.op=.store t x' y'/\bU P t=D5 sz/\x=aI H x'/\y=aI H y':=by
 obtain⟨k,hk⟩:∃k,Op.st sz x y=aM P H k o:=by
  rcases hq with h | ⟨_,_,_,_,_,h⟩ | ⟨_,_,_,_,_,_,_,h⟩ | ⟨_,_,_,_,_,_,_,h⟩ | ⟨_,_,_,_,_,_,h⟩ | ⟨_,_,_,_,_,_,h⟩
  .exact h
  .cases h
  .cases h
  .cases h
  .cases h
  .cases h
 cases ho:o.op with
 | call c=>
  obtain⟨callee,args,ts⟩:=c;simp only[aM,ho] at hk
  split at hk
  .rename_i f;cases hm:H.mode k<;>simp only[hm,reduceCtorEq] at hk
  .repeat' split at hk
   all_goals first
    | (cases hk;done)
    | (simp only[bad] at hk;cases hk;done)
    | (revert hk;generalize yo _ _=bb;intro hk;cases bb<;>simp[bad] at hk)
  .simp only [bad] at hk;cases hk
 | binOp op t x' y ty=>
  cases op<;>simp only[aM,ho,mR,nN] at hk
  case eql=>
        repeat' split at hk
        all_goals first
         | (cases hk;done)
         | (simp only[bad] at hk;cases hk;done)
         | (cases bm:(P.stoodInHeld t||P.eqGuardType P.depth t)<;>rw[bm] at hk<;>simp[bad] at hk)
  case neq=>
        repeat' split at hk
        all_goals first
         | (cases hk;done)
         | (simp only[bad] at hk;cases hk;done)
         | (cases bm:(P.stoodInHeld t||P.eqGuardType P.depth t)<;>rw[bm] at hk<;>simp[bad] at hk)
  all_goals cases hk
 | buildSlice t n parts=>
  simp only[aM,ho] at hk
  repeat' split at hk
  all_goals first
   | (cases hk;done)
   | (simp only[bad] at hk;cases hk;done)
   | (revert hk;generalize yz _ _=bb;intro hk;cases bb<;>simp[bad] at hk)
 | makeMap t r=>
  cases r<;>simp only[aM,ho] at hk
  .repeat' split at hk
   all_goals first
    | (cases hk;done)
    | (simp only[bad] at hk;cases hk;done)
  .simp only [bad] at hk;cases hk
 | next x' b=>
  cases b<;>simp only[aM,ho] at hk
  .simp only [bad] at hk;cases hk
  .cases hk
 | store t x' y'=>
  simp only[aM,ho] at hk
  split at hk
  .rename_i s hs;simp only[Op.st.injEq] at hk;obtain⟨rfl,rfl,rfl⟩:=hk;exact⟨t,x',y',rfl,hs,rfl,rfl⟩
  .simp only [bad] at hk;cases hk
 | _=>
  simp only[aM,ho] at hk
  (repeat' split at hk)
  all_goals first
   | contradiction
   | (cases hk;done)
   | (simp only[bad] at hk;cases hk;done)
def aaE{H:Hint}{o:yP}{rs:List (Nat×Bool×Nat)}(hq:nh P H (.kx rs sz x y) o):∃t x' y',o.op=.store t x' y'/\bU P t=D5 sz/\x=aI H x'/\y=aI H y':=by
 rcases hq with ⟨k,hk⟩ | ⟨_,_,_,_,_,h3⟩ | ⟨t,x',y',mE,rs',h1,h2,h3⟩ | ⟨_,_,_,_,_,_,_,h3⟩ | ⟨_,_,_,_,_,_,h3⟩ | ⟨_,_,_,_,_,_,h3⟩
 .exact (ahK hk).elim
 .cases h3
 .simp only [Op.kx.injEq] at h3;obtain⟨_,rfl,rfl,rfl⟩:=h3;exact⟨t,x',y',h1,h2,rfl,rfl⟩
 .cases h3
 .cases h3
 .cases h3
def aaF{H:Hint}{o:yP}{rs:List (Nat×Bool×Nat)}(hq:nh P H (.kQ rs sz b x y) o):∃k,Op.df sz b x y=aM P H k o:=by
 rcases hq with ⟨k,hk⟩ | ⟨_,_,_,_,_,h3⟩ | ⟨_,_,_,_,_,_,_,h3⟩ | ⟨k,rs',mE,b',x',y',h1,h3⟩ | ⟨_,_,_,_,_,_,h3⟩ | ⟨_,_,_,_,_,_,h3⟩
 .exact (ahL hk).elim
 .cases h3
 .cases h3
 .simp only [Op.kQ.injEq] at h3;obtain⟨_,rfl,rfl,rfl,rfl⟩:=h3;exact⟨k,h1⟩
 .cases h3
 .cases h3
def aaG{H:Hint}{o:yP}(hq:nh P H (.df sz b x y) o):∃k,Op.df sz b x y=aM P H k o:=by
 rcases hq with h | ⟨_,_,_,_,_,h3⟩ | ⟨_,_,_,_,_,_,_,h3⟩ | ⟨_,_,_,_,_,_,_,h3⟩ | ⟨_,_,_,_,_,_,h3⟩ | ⟨_,_,_,_,_,_,h3⟩
 .exact h
 .cases h3
 .cases h3
 .cases h3
 .cases h3
 .cases h3
def ahM{H:Hint}{o:yP}(hq:nh P H q o):nh P H (iV q) o:=by
 cases h:q with
 | iS rs f xs=>
  subst h;have⟨c,f',g1,g2,g3,g4⟩:=Qr hq;exact .inr (.inl ⟨c,f',[],g1,g2,by rw[g3,g4];rfl⟩)
 | kx rs sz x y=>
  subst h;have⟨t,x',y',g1,g2,g3,g4⟩:=aaE hq;refine .inl ⟨0,?_⟩;simp only[iV,aM,g1,g2,g3,g4]
 | kQ rs sz b x y=>
  subst h;exact .inl (aaF hq)
 | _=>subst h;exact hq
def YE(hC:nO O self)(hH:eF O H){o:yP}(hq:nh O.P H q o)(hd:∀c,o.op≠.defer c)(hv:aW O.prog O.aG self tm hp ct q=D5 (v,an,aK))(ht:bN O m S w tm a.tmps)(hh:aP O m S w hp ct)(hn:∀u m' S' w',aP O m' S' w' an aK->ct<=aK->ae O.ab m' S' w' v u->bR m S w hp m' S' w' an ct->next (a.put o.dst u) w'):o.wpIn (WF ro) 0 O.P a w next Q:=by
 have quiet:bf q<=1->o.wpIn (WF ro) 0 O.P a w next Q:=by
  intro hk;have hg:=Wy hk hv hh.aB;obtain⟨S1,g1,g2,g3,g4⟩:=Lu hh hg;refine quiet_step hC hH hk hq hd hv cz.refl (yq _) hh.aB (fun id h1 h2=>?_) (AU (fun _ _ h=>h) g2 (fun _ _=>rfl) ht) g1 (fun u m' S' w' k1 k2 k3 k4 k5=>hn u m' S' w' k1 hg.qc k4 ((g4 ct).trans (k5.so hg.qc)))
  cases hm:m id with
  | none=>rfl
  | some p=>have:=hh.lt id p hm;omega
 have RA:∀{q':Op},(∃k,q'=aM O.P H k o)->bV tm hp ct q'=D5 (v,an,aK)->o.wpIn (WF ro) 0 O.P a w next Q:=by
  intro q' gg hw;obtain⟨k,rfl⟩:=gg;obtain⟨n,u,w',m',S',h1,h2,h3,h4,h5,h6⟩:=amA hH ht hh hw;exact Ez hd h1 h2 (hn u m' S' w' h3 (akz hw) h4 h6)
 have write:bV tm hp ct q=D5 (v,an,aK)->o.wpIn (WF ro) 0 O.P a w next Q:=by
  intro hw;refine RA ?_ hw;rcases hq with h | ⟨c,f,rs,_,_,rfl⟩ | ⟨_,_,_,_,_,_,_,rfl⟩ | ⟨_,_,_,_,_,_,_,rfl⟩ | ⟨_,_,_,_,_,_,rfl⟩ | ⟨_,_,_,_,_,_,rfl⟩
  .exact h
  .simp [bV] at hw
  .simp [bV] at hw
  .simp [bV] at hw
  .simp [bV] at hw
  .simp [bV] at hw
 have heap:∀{c:tJ} {f:xm} {g:Nat} {first cap:List AV},o.op=.call c->c.callee=.value f->aw tm (aI H f)=.fn (.f g) first cap->
   ir O.prog O.aG self hp ct g (first++(db tm (gH H c.args.toList)++cap))=D5 (v,an,aK)->o.wpIn (WF ro) 0 O.P a w next Q:=by
  intro c f g first cap ho iK hx he;obtain⟨fi,ca,h1,h2⟩:=Lt hH ht (args:=c.args) hx;refine KZ ho iK h1 (hC.heap _ _ _ _ _ _ _ he m S w _ hh h2) ?_;rintro e w' ⟨u,m',S',rfl,k1,k2,k3,k4⟩;exact⟨u,rfl,hn u m' S' w' k1 k2 k3 k4⟩
 have round:∀{c:tJ} {f:xm} {l:Nat} {x y:List AV},o.op=.call c->c.callee=.value f->aw tm (aI H f)=.fn (.y l) x y->
   iP self hp ct l (db tm (gH H c.args.toList))=D5 (v,an,aK)->o.wpIn (WF ro) 0 O.P a w next Q:=by
  intro c f l x y ho iK hx he;have rf:=bO hH ht f;rw[hx] at rf;simp only[ae] at rf;obtain⟨p,hm,hf⟩:=rf;have dQ:=CM hH ht c.args.toList;obtain⟨g,tmps,as_,body,h1,h2⟩:=hC.round _ _ _ _ _ _ _ he m S w (c.args.map a.eval) p hh hm (by simpa using dQ);refine aku ho iK hf h1 h2 ?_;rintro e w' ⟨u,m',S',rfl,k1,k2,k3,k4⟩;exact⟨u,rfl,hn u m' S' w' k1 k2 k3 k4⟩
 have dyn:∀{c:tJ} {f:xm},o.op=.call c->c.callee=.value f->eb O.prog O.aG self hp ct .dyn (aw tm (aI H f)) (db tm (gH H c.args.toList))=D5 (v,an,aK)->o.wpIn (WF ro) 0 O.P a w next Q:=by
  intro c f ho iK he;unfold eb at he
  split at he
  .rename_i g first cap hx
   (try simp only at he)
   cases hp0:aD (first++(db tm (gH H c.args.toList)++cap)) with
   | true=>
    rw[hp0] at he;simp only[yr] at he
    cases hr:bQ O.prog O.aG self g (first++(db tm (gH H c.args.toList)++cap)) with
    | none=>simp[hr] at he
    | some r=>
     simp only[hr,yb,yj] at he;obtain⟨rfl,rfl,rfl⟩:=he;obtain⟨fi,ca,h1,h2⟩:=Lt hH ht (args:=c.args) hx;refine KZ ho iK h1 (hC.pure g _ r hr w S _ (QZ hh) hh.slt (zu (fun _ h=>h) (fun _ _=>rfl) _ _ hp0 h2) hp0) ?_;rintro e w' ⟨u,S',rfl,hw,g1,g2,g3,g4⟩;obtain⟨S2,k1,k2,k3⟩:=XN g4 m;have hS:∀b,S b->S2 b:=fun b hb=>k1 b (g1 b hb)
     have B0:∀b,S2 b->S b\/w.heap.size<=b:=fun b hb=>(k2 b hb).elim (g2 b) (fun h=>.inr h.1)
     have hl:∀b,S2 b->b<w'.heap.size:=fun b hb=>(k2 b hb).elim (g3 b) (fun h=>h.2)
     exact⟨u,rfl,hn u m S2 w' (AW hh hw hS B0 hl) (yq _) k3 (zy hh hw hS B0)⟩
   | false=>
    rw[hp0] at he;simp only[yJ] at he;exact heap ho iK hx he
  .rename_i l x y hx;exact round ho iK hx he
  .cases he
 cases bE:q with
 | iS rs x xs=>
  subst bE;simp only[aW] at hv;have key:=Qr hq;obtain⟨c,f,ho,iK,rfl,rfl⟩:=key
  cases hc:eb O.prog O.aG self hp ct .dyn (aw tm (aI H f)) (db tm (gH H c.args.toList)) with
  | none=>simp[hc] at hv
  | some r=>
   obtain⟨v1,aX,oE⟩:=r;simp only[hc] at hv
   cases hs:oW tm hp aX rs with
   | false=>rw[hs] at hv;cases hv
   | true=>
    rw[hs] at hv;simp only[yr,yb,yj] at hv;obtain⟨rfl,rfl,rfl⟩:=hv;exact dyn ho iK hc
 | call md x xs=>
  subst bE;have gg:∃k,Op.call md x xs=aM O.P H k o:=by
   rcases hq with h | ⟨c,f,rs,_,_,h⟩ | ⟨_,_,_,_,_,_,_,h⟩ | ⟨_,_,_,_,_,_,_,h⟩ | ⟨_,_,_,_,_,_,h⟩ | ⟨_,_,_,_,_,_,h⟩
   .exact h
   .cases h
   .cases h
   .cases h
   .cases h
   .cases h
  obtain⟨k,hk⟩:=gg
  cases md with
  | pure=>exact quiet (by simp[bf])
  | own=>exact quiet (by simp[bf])
  | heap=>
   simp only[aW] at hv;obtain⟨c,f,ho,iK,rfl,rfl⟩:=LQ hk.symm (by rintro rfl;simp[aw,eb] at hv);unfold eb at hv
   split at hv
   .rename_i g first cap hx;exact heap ho iK hx hv
   .rename_i l x y hx;exact round ho iK hx hv
   .cases hv
  | dyn=>
   simp only[aW] at hv;obtain⟨c,f,ho,iK,rfl,rfl⟩:=LQ hk.symm (by rintro rfl;simp[aw,eb] at hv);exact dyn ho iK hv
 | kx rs s x y=>
  subst bE;obtain⟨t,x',y',g1,g2,g3,g4⟩:=aaE hq;simp only[aW] at hv
  split at hv
  .rename_i id off hx
   cases hf:lf tm id rs with
   | false=>rw[hf] at hv;cases hv
   | true=>
    rw[hf] at hv;simp only[yr] at hv
    exact RA (q':=.st s x y) ⟨0,by simp only[aM,g1,g2,g3,g4]⟩ hv
  .cases hv
 | kQ rs s b x y=>
  subst bE;simp only[aW] at hv
  cases hc:bV tm hp ct (.df s b x y) with
  | none=>simp[hc] at hv
  | some r=>
   obtain⟨v1,aX,oE⟩:=r;simp only[hc] at hv
   cases hs:(EZ tm (aw tm x) rs||oW tm hp aX rs) with
   | false=>rw[hs] at hv;cases hv
   | true=>
    rw[hs] at hv;simp only[yr,yb,yj] at hv;obtain⟨rfl,rfl,rfl⟩:=hv
    exact RA (q':=.df s b x y) (aaF hq) hc
 | st s x y=>subst bE;exact write (by simpa only[aW] using hv)
 | pW kk x y z=>subst bE;exact write (by simpa only[aW] using hv)
 | pY x=>subst bE;exact write (by simpa only[aW] using hv)
 | df s b x y=>subst bE;exact write (by simpa only[aW] using hv)
 | p6 s x y=>subst bE;exact write (by simpa only[aW] using hv)
 | pV k x lo hi=>subst bE;exact quiet (by cases k<;>simp[bf])
 | len k x=>subst bE;exact quiet (by rcases k with _ | _ | k<;>simp[bf])
 | _=>subst bE;exact quiet (by simp[bf])
end
end
end
section
open Go
section
variable {v:AV}{d:Option Nat}
def pE(tm:Env)(g:Option (Nat×Bool)):Option Bool:=
 match g with
 | none=>D5 ycG
 | some (t,b)=>match aj tm t with | .bool c=>D5 (c==b) | .ay []=>D5 ycH | _=>D6
def eD(P:aE)(L:Lib)(self:bZ)(tm:Env)(hp:Hp)(ct:Nat)(r:aO):fY:=
 match pE tm r.guard with
 | some ycG=>aW P L self tm hp ct r.op
 | some ycH=>D5 (.ay [],hp,ct)
 | none=>D6
def W7{P:aE}{L:Lib}{self:bZ}{r:aO}{rs:List aO}{s:St}:
  cJ P L self (r::rs) s=match eD P L self s.tm s.hp s.ct r with | some (v,hp,ct)=>cJ P L self rs {s with tm:=put r.dst v s.tm,hp:=hp,ct:=ct} | none=>D6:=by
 have⟨d,g,o⟩:=r;simp only[cJ,eD]
 cases g with
 | none=>rfl
 | some q=>
  have⟨t,b⟩:=q;simp only[pE];generalize aj s.tm t=x
  cases x with
  | bool c=>
   simp only;cases (c==b)<;>rfl
  | ay vs=>cases vs<;>rfl
  | _=>rfl
def ZR(ops:Array yP)(g:Option (Nat×Bool))(g':Option (Nat×Bool)):Prop:=
 (g=D6/\g'=D6)\/∃t b j,g=D5 (t,b)/\g'=D5 (j,b)/\(ops[j]?).bind (·.dst)=D5 t
structure Da(P:xi)(H:Hint)(ops:Array yP)(r:aO)(o:yP):Prop where
 op:nh P H r.op o
 dst:r.dst=o.dst
 ok:Iz H o.dst=ycG
 guard:ZR ops r.guard o.guard
def dS(P:xi)(H:Hint)(ops:Array yP):List aO->List yP->Prop
 | [],[]=>True
 | r::rs,o::l=>(Da P H ops r o\/(r.guard=D6/\r.op=bad))/\dS P H ops rs l
 | _,_=>False
def W8{P:xi}{H:Hint}{ops:Array yP}:∀(l:List yP) (k:Nat),dS P H ops (CG P H ops l k).1 l
 | [],k=>by simp[CG,dS]
 | o::l,k=>by
  have ih:=W8 (P:=P) (H:=H) (ops:=ops) l (k+(bif Rx o then 1 else 0));simp only[CG];generalize hq:CG P H ops l (k+(bif Rx o then 1 else 0))=q at ih;have⟨l',k'⟩:=q;simp only;have ja:dS P H ops (⟨o.dst,D6,bad⟩::l') (o::l):=⟨.inr ⟨rfl,rfl⟩,ih⟩
  cases hg:o.guard with
  | none=>
   simp only
   cases hd:Iz H o.dst with
   | false=>exact ja
   | true=>exact⟨.inl ⟨.inl ⟨k,rfl⟩,rfl,hd,.inl ⟨rfl,hg⟩⟩,ih⟩
  | some p=>
   have⟨j,b⟩:=p;simp only
   cases ht:(ops[j]?).bind (·.dst) with
   | none=>exact ja
   | some t=>
    simp only
    cases hd:Iz H o.dst with
    | false=>exact ja
    | true=>exact⟨.inl ⟨.inl ⟨k,rfl⟩,rfl,hd,.inr ⟨t,b,j,rfl,hg,ht⟩⟩,ih⟩
section
variable {O:bk}{H:Hint}{m:Mp}{S:Nat->Prop}{w:yi}{tm:Env}{a:Act}{hp an:Hp}{ct aK:Nat}{self:bZ}{ro:Option Nat}{Q:vX->Act->yi->Prop}{ops:Array yP}
def Qs{tm:Env}{t:Nat}:aj (put d v tm) t=if d=D5 t then v else aj tm t:=by
 cases d with
 | none=>simp[put]
 | some i=>
  simp only[put,aj];by_cases h:i=t
  .subst h;simp
  .have:yo i t=ycH:=by
    cases hq:yo i t with
    | false=>rfl
    | true=>exact absurd (yf hq) h
   simp[this,h]
def Lv(a:Act)(d:Option Nat)(u:yg):(a.put d u).tmps.size=a.tmps.size:=by
 cases d with
 | none=>rfl
 | some i=>simp[Act.put]
def PG(a:Act)(d:Option Nat)(u:yg):(a.put d u).defers=a.defers:=by
 cases d with
 | none=>rfl
 | some i=>rfl
def Qt{a:Act}{u:yg}{t:Nat}(hd:∀i,d=D5 i->i<a.tmps.size):(a.put d u).tmps.getD t undef=if d=D5 t then u else a.tmps.getD t undef:=by
 cases d with
 | none=>simp[Act.put]
 | some i=>
  have hi:=hd i rfl;by_cases h:i=t
  .subst h;simp[Act.put,hi]
  .simp only [Act.put,yb,h,xq];simp[Array.getElem?_setIfInBounds_ne h]
def YF{n:Nat}(h:Iz H d=ycG)(hn:H.n<=n):∀i,d=D5 i->i<n:=by
 rintro i rfl
 have:=oY.1 h
 lia
def Qu{u:yg}(ht:bN O m S w tm a.tmps)(hd:∀i,d=D5 i->i<a.tmps.size)(hv:ae O.ab m S w v u):bN O m S w (put d v tm) (a.put d u).tmps:=fun t=>by
 rw[Qs,Qt hd]
 split
 .exact hv
 .exact ht t
def XT{o:yP}{g:Option (Nat×Bool)}{b:Bool}(hg:ZR ops g o.guard)(ht:∀t,t∈R0 g->ae O.ab m S w (aj tm t) (a.tmps.getD t undef))(hw:pE tm g=D5 b):Region.wanted o (yielded ops a.tmps)=b:=by
 rcases hg with ⟨rfl,h2⟩ | ⟨t,c,j,rfl,h2,h3⟩
 .simp only [pE,yb] at hw;subst hw;simp[Region.wanted,h2]
 .simp only [pE] at hw;have h4:=ht t (by simp[R0]);simp only[Region.wanted,h2]
  split at hw
  .rename_i d hd;rw[hd] at h4;simp only[ae] at h4;simp only[yb] at hw
   have:yielded ops a.tmps j=D5 d:=by
    simp only[yielded,h3,wu];have h5:a.tmps[t]? =D5 (.bool d):=by
     simp only[xZ] at h4
     cases hq:a.tmps[t]? with
     | none=>rw[hq] at h4;simp[undef] at h4
     | some x=>rw[hq] at h4;simp at h4;rw[h4]
    rw[h5]
   rw[this,<-hw];cases d<;>cases c<;>rfl
  .rename_i hd;rw[hd] at h4;simp only[ae,ax] at h4;have⟨xs,h4,h5⟩:=h4;simp only[yb] at hw;subst hw
   have:yielded ops a.tmps j=D6:=by
    simp only[yielded,h3,wu];simp only[xZ] at h4
    cases hq:a.tmps[t]? with
    | none=>rfl
    | some x=>rw[hq] at h4;simp at h4;rw[h4]
   rw[this];rfl
  .cases hw
def Wz{o:yP}{q:Op}(hq:nh O.P H q o){r:AV×Hp×Nat}(hv:aW O.prog O.aG self tm hp ct q=D5 r):∀c,o.op≠.defer c:=by
 rcases hq with ⟨k,rfl⟩ | ⟨c,f,rs,h1,_,_⟩ | ⟨_,_,_,_,_,h1,_,_⟩ | ⟨k,rs,sz,b,x,y,h1,rfl⟩ | ⟨k,sz,b,x,y,h1,rfl⟩ | ⟨k,n,sz,z,ps,h1,rfl⟩
 .exact ahF hv
 .intro c' h;rw[h1] at h;cases h
 .intro c' h;rw[h1] at h;cases h
 .intro c' h;simp only[aM,h] at h1;simp[bad] at h1
 .intro c' h;simp only[aM,h] at h1;simp[bad] at h1
 .intro c' h;simp only[aM,h] at h1;simp[bad] at h1
def amC(hC:nO O self)(hH:eF O H){i:Nat}{r:aO}{o:yP}(hi:ops[i]? =D5 o)(hr:Da O.P H ops r o\/(r.guard=D6/\r.op=bad))(hv:eD O.prog O.aG self tm hp ct r=D5 (v,an,aK))(ht:bN O m S w tm a.tmps)(hh:aP O m S w hp ct)(hn:H.n<=a.tmps.size){K:Act->yi->Prop}(hK:∀u m' S' w',aP O m' S' w' an aK->ct<=aK->bN O m' S' w' (put r.dst v tm) (a.put o.dst u).tmps->bR m S w hp m' S' w' an ct->K (a.put o.dst u) w'):wpOpIn (WF ro) 0 O.P ops Q i K a w:=by
 rcases hr with hr | ⟨h1,h2⟩
 case inr=>
  simp only[eD,h1,pE,h2,bad,aW,eb,aw] at hv;cases hv
 unfold wpOpIn;simp only[hi];unfold eD at hv
 cases hw:pE tm r.guard with
 | none=>simp[hw] at hv
 | some b=>
  have Uz:=XT hr.guard (fun t _=>ht t) hw;have hd:=YF hr.ok hn;rw[Uz]
  cases b with
  | true=>
   simp only[hw] at hv;simp only[xN];refine YE hC hH hr.op (Wz hr.op hv) hv ht hh (fun u m' S' w' k1 k2 k3 k4=>hK u m' S' w' k1 k2 ?_ k4);rw[hr.dst];exact Qu (AU (fun id p h=>k4.old id p (hh.lt id p h) h) k4.sub (fun b hb=>k4.still b hb) ht) hd k3
  | false=>
   simp only[hw,yb,yj] at hv;obtain⟨rfl,rfl,rfl⟩:=hv;simp only[yA,xq];refine⟨fun _ _=>trivial,hK undef m S w hh (yq _) ?_ bR.refl⟩;rw[hr.dst];exact Qu ht hd (by simp[ae,ax,undef])
def ZS(hC:nO O self)(hH:eF O H):∀(l:List yP) (rs:List aO) (i:Nat) (s s':St) (a:Act) (m:Mp) (S:Nat->Prop) (w:yi),(∀j,l[j]? =ops[i+j]?)->dS O.P H ops rs l->
  cJ O.prog O.aG self rs s=D5 s'->bN O m S w s.tm a.tmps->aP O m S w s.hp s.ct->H.n<=a.tmps.size->
  (∀a' m' S' w',aP O m' S' w' s'.hp s'.ct->s.ct<=s'.ct->bN O m' S' w' s'.tm a'.tmps->bR m S w s.hp m' S' w' s'.hp s.ct->a'.tmps.size=a.tmps.size->a'.defers=a.defers->s'.base=s.base->Q .normal a' w')->
  wpOpsIn (WF ro) 0 O.P ops Q (List.range' i l.length) a w
 | [],rs,i,s,s',a,m,S,w,hl,hr,hv,ht,hh,hn,hQ=>by
  cases rs with
  | cons _ _=>simp[dS] at hr
  | nil=>
   simp only[cJ,yb] at hv;subst hv;simp only[yM,List.range'_zero,wpOpsIn];exact hQ a m S w hh (yq _) ht bR.refl rfl rfl rfl
 | o::l,rs,i,s,s',a,m,S,w,hl,hr,hv,ht,hh,hn,hQ=>by
  cases rs with
  | nil=>simp[dS] at hr
  | cons r rs=>
   simp only[dS] at hr;rw[W7] at hv
   cases h1:eD O.prog O.aG self s.tm s.hp s.ct r with
   | none=>simp[h1] at hv
   | some q=>
    have⟨v,aX,oE⟩:=q;simp only[h1] at hv;have hi:ops[i]? =D5 o:=by have:=hl 0;simpa using this.symm
    rw[yH,List.range'_succ,wpOpsIn_cons];refine amC hC hH hi hr.1 h1 ht hh hn (fun u m1 S1 w1 k1 k2 k3 k4=>?_)
    refine ZS hC hH l rs (i+1) {s with tm:=put r.dst v s.tm,hp:=aX,ct:=oE} s' _ m1 S1 w1 (fun j=>?_) hr.2 hv k3 k1 (by rw[Lv];exact hn) (fun a' m' S' w' g1 g2 g3 g4 g5 g6 g7=>?_)
    .have:=hl (j+1)
     rw[yaq] at this;rw[this];congr 1;lia
    .exact hQ a' m' S' w' g1 (y9 k2 g2) g3 (k4.trans (g4.so k2)) (by rw[g5,Lv]) (by rw[g6,PG]) g7
end
end
end
section
open Go
section
variable {ops:Array yP}
def Pv{acc:List Nat}{i:Nat}:∀{es:List Edge},ve (Be acc es) i=ycG->∃e,e∈es/\Region.binds .any e=ycG/\(i=e.on\/ve (acc.getD e.on 0) i=ycG)
 | [],h=>by simp[Be] at h
 | e::r,h=>by
  simp only[Be] at h
  cases hb:Region.binds .any e with
  | false=>
   rw[hb] at h;have⟨e',h1,h2⟩:=Pv h
   grind
  | true=>
   rw[hb] at h;simp only[yr,yby,ub] at h;rcases h with (h | h) | h
   .grind
   .grind
   .have ⟨e',h1,h2⟩:=Pv h
    grind
def XU{l:List yP}{acc:List Nat}{j:Nat}(hj:j<acc.length):(jo acc l)[j]? =acc[j]? :=by
 induction l generalizing acc with
 | nil=>rfl
 | cons o l ih=>
  simp only[jo]
  grind
def ahN{l:List yP}{acc:List Nat}{j:Nat}{o:yP}(h:l[j]? =D5 o):∃Ae:List Nat,(jo acc l)[acc.length+j]? =D5 (Be Ae o.after.toList)/\Ae.length=acc.length+j/\∀k,k<Ae.length->Ae[k]? =(jo acc l)[k]? :=by
 induction l generalizing acc j with
 | nil=>simp at h
 | cons x l ih=>
  cases j with
  | zero=>
   simp only[vN,yb] at h;subst h;refine⟨acc,?_,by simp,fun k hk=>?_⟩
   .simp only [jo];rw[XU (by simp)]
    simp
   .simp only [jo];rw[XU (by rw[yC];lia),List.getElem?_append_left hk]
  | succ j=>
   have⟨Ae,h1,h2,h3⟩:=ih (acc:=acc++[Be acc x.after.toList]) h;simp only[yC,yH,yM] at h1 h2;refine⟨Ae,?_,by lia,fun k hk=>?_⟩
   .simp only [jo]
    grind
   .simp only [jo];exact h3 k hk
def Ord(ops:Array yP)(i j:Nat):Prop:=ve ((jo [] ops.toList).getD j 0) i=ycG
def RB(ops:Array yP)(D:Nat->Prop):Prop:=∀j o,ops[j]? =D5 o->D j->∀e,e∈o.after->Region.binds .any e=ycG->D e.on
def XV{D:Nat->Prop}(hc:RB ops D):∀(j:Nat) (o:yP),ops[j]? =D5 o->(∀e,e∈o.after->Region.binds .any e=ycG->D e.on)->∀i,Ord ops i j->D i:=by
 intro j
 induction j using vB with
 | _ j ih=>
  intro o ho hr i hi;have iH:ops.toList[j]? =D5 o:=by simp_all
  have⟨Ae,h1,h2,h3⟩:=ahN (acc:=[]) iH;simp only[yM,yd] at h1 h2;unfold Ord at hi;rw[yY,h1,wG] at hi;have⟨e,g1,g2,g3⟩:=Pv hi;have he:D e.on:=hr e (by simpa using g1) g2;rcases g3 with rfl | g3
  .grind
  .rcases wQ e.on j with aB | jQ
   .have h4:=h3 e.on (by lia);have hol:e.on<ops.size:=by
     grind
    have Uw:ops[e.on]? =D5 ops[e.on]:=by simp_all
    refine ih e.on aB _ Uw (fun e' he' bm=>hc e.on _ Uw he e' he' bm) i ?_;unfold Ord
    grind
   .grind
def akA{D:Nat->Prop}(hc:RB ops D){i j:Nat}{o:yP}(ho:ops[j]? =D5 o)(hj:D j)(hi:Ord ops i j):D i:=
 XV hc j o ho (fun e he hb=>hc j o ho hj e he hb) i hi
def Wm:∀{l:List yP} {k j:Nat} {o:yP},mJ l k=ycG->l[j]? =D5 o->∀e,e∈o.after->Region.binds .any e=ycG->e.on<k+j
 | [],k,j,o,_,h=>by simp at h
 | x::l,k,j,o,hb,h=>by
  simp only[mJ,ye] at hb
  cases j with
  | zero=>
   simp only[vN,yb] at h;subst h;intro e he rm
   have:=ybd.1 hb.1 e (by simpa using he)
   simp_all
  | succ j=>
   intro e he rm
   have:=Wm hb.2 h e he rm
   lia
end
def Dk(a b:aO)(r:List aO):Prop:=Lp a b=ycH/\(Hd a b=ycH\/Hx a b r=ycG)
def Wo{m:Nat}{b:aO}:∀{l:List aO} {k i:Nat} {a:aO},Lq m b l k=ycG->l[i]? =D5 a->ve m (k+i)=ycG\/Dk a b (l.drop (i+1))
 | [],k,i,a,_,h=>by simp at h
 | x::l,k,i,a,hp,h=>by
  simp only[Lq,ye] at hp
  cases i with
  | zero=>
   simp only[vN,yb] at h;subst h;have h1:=hp.1;simp only[ub,vD,yaG,Bool.and_eq_false_iff,Bool.not_eq_false'] at h1;rcases h1 with h1 | ⟨h1,h2⟩
   .grind
   .exact .inr ⟨h1,by simpa using h2⟩
  | succ i=>
   rcases Wo hp.2 h with h1 | h1
   .grind
   .grind
def Pk:∀{l done:List aO} {ms:List Nat} {i j:Nat} {a b:aO},oV done l ms=ycG->(done++l)[i]? =D5 a->l[j]? =D5 b->i<done.length+j->
  ∃m,ms[j]? =D5 m/\(ve m i=ycG\/Dk a b (((done++l).take (done.length+j)).drop (i+1)))
 | [],done,ms,i,j,a,b,_,_,h,_=>by simp at h
 | x::l,done,[],i,j,a,b,hp,_,h,_=>by simp[oV] at hp
 | x::l,done,m::ms,i,j,a,b,hp,ha,h,oF=>by
  simp only[oV,ye] at hp
  cases j with
  | zero=>
   have DJ:done[i]? =D5 a:=by grind
   have:=Wo hp.1 DJ
   grind
  | succ j=>
   have e:done++x::l=(done++[x])++l:=by simp
   have⟨m',h1,h2⟩:=Pk (i:=i) (a:=a) hp.2 (by rw[<-e];exact ha) h (by simp;lia)
   grind
def KL{a b:aO}(h:Lp a b=ycH):(∀d,a.dst=D5 d->d∉CL b/\b.dst≠D5 d)/\(∀d,b.dst=D5 d->d∉CL a):=by
 have mem:∀{i:Nat} {l:List Nat},iA i l=ycH->i∉l:=by
  intro i l
  induction l with
  | nil=>intro _ h;cases h
  | cons j r ih=>
   intro h hm;simp only[iA] at h
   cases hb:yo j i with
   | true=>rw[hb] at h;cases h
   | false=>
    simp_all
 simp only[Lp,yaG] at h;have⟨⟨h1,h2⟩,h3⟩:=h;refine⟨fun d hd=>⟨mem (by simpa[hd,EY] using h1),fun hb=>?_⟩,fun d hd=>mem (by simpa[hd,EY] using h2)⟩;rw[hd,hb] at h3;simp[R1] at h3
def W9{t:Nat}:∀{l:List aO},C2 t l=ycG->∀r,r∈l->r.dst≠D5 t
 | [],_,r,h=>by cases h
 | x::l,h,r,hr=>by
  simp only[C2,ye,vD] at h;rcases xn.1 hr with rfl | hr
  .intro hd;rw[hd] at h;simp[EY,iA] at h
  .exact W9 h.2 r hr
def Lf{sz t:Nat}{ag:Bool}:∀{l:List (Nat×Bool×Nat)},Dg sz ag t l=ycG->(sz,ag,t)∈l
 | [],h=>by simp[Dg] at h
 | (s,g,u)::r,h=>by
  simp only[Dg,ub,ye] at h;rcases h with ⟨h1,h2,h3⟩ | h
  .simp_all
  .exact xG _ (Lf h)
def Qv:∀{a b:List Nat},fX a b=ycG->a=b
 | [],[],_=>rfl
 | [],_::_,h=>by simp[fX] at h
 | _::_,[],h=>by simp[fX] at h
 | x::a,y::b,h=>by
  simp only[fX,ye] at h;rw[yf h.1,Qv h.2]
def aiI{a b:AV}(h:SF a b=ycG):a=b:=by
 unfold SF at h
 split at h
 .grind
 .grind
 .rw [Qv h]
 .rfl
 .rfl
 .simp_all
 .simp_all
 .simp_all
 .cases h
def Pm{tm:Env}{hp an:Hp}{sz t:Nat}{ag:Bool}{v:AV}:∀{l:List (Nat×Bool×Nat)},oW tm hp an l=ycG->(sz,ag,t)∈l->fD hp sz ag (aj tm t)=D5 v->fD an sz ag (aj tm t)=D5 v
 | [],_,h,_=>by cases h
 | (s,g,u)::r,h,hm,hv=>by
  simp only[oW] at h
  cases h1:fD hp s g (aj tm u) with
  | none=>simp[h1] at h
  | some x=>
   cases h2:fD an s g (aj tm u) with
   | none=>simp[h1,h2] at h
   | some y=>
    simp only[h1,h2,ye] at h;rcases xn.1 hm with e | hm
    .simp only [yj] at e;obtain⟨rfl,rfl,rfl⟩:=e;rw[h1] at hv;rw[h2,<-aiI h.1,hv]
    .exact Pm h.2 hm hv
structure Na(P:aE)(L:Lib)(run:bZ)(rs:List aO)(bK:Nat->Env)(bw:Nat->Hp)(bt:Nat->Nat)(vF:Nat->AV):Prop where
 step:∀i r,rs[i]? =D5 r->eD P L run (bK i) (bw i) (bt i) r=D5 (vF i,bw (i+1),bt (i+1))
 tm:∀i r,rs[i]? =D5 r->bK (i+1)=put r.dst (vF i) (bK i)
def ZT{P:aE}{L:Lib}{self:bZ}:∀{rs:List aO} {s s':St},cJ P L self rs s=D5 s'->
  ∃bK bw bt vF,Na P L self rs bK bw bt vF/\bK 0=s.tm/\bw 0=s.hp/\bt 0=s.ct/\bK rs.length=s'.tm/\bw rs.length=s'.hp/\bt rs.length=s'.ct/\s'.base=s.base
 | [],s,s',h=>by
  simp only[cJ,yb] at h;subst h;exact⟨fun _=>s.tm,fun _=>s.hp,fun _=>s.ct,fun _=>.undef,⟨fun i r h=>by simp at h,fun i r h=>by simp at h⟩,rfl,rfl,rfl,rfl,rfl,rfl,rfl⟩
 | r::rs,s,s',h=>by
  rw[W7] at h
  cases h1:eD P L self s.tm s.hp s.ct r with
  | none=>simp[h1] at h
  | some q=>
   have⟨v,aX,oE⟩:=q;simp only[h1] at h;have⟨bK,bw,bt,vF,g1,g2,g3,g4,g5,g6,g7,g8⟩:=ZT h;refine⟨fun i=>match i with | 0=>s.tm | i+1=>bK i,fun i=>match i with | 0=>s.hp | i+1=>bw i,fun i=>match i with | 0=>s.ct | i+1=>bt i,fun i=>match i with | 0=>v | i+1=>vF i,⟨?_,?_⟩,rfl,rfl,rfl,by simpa using g5,by simpa using g6,by simpa using g7,g8⟩
   .intro i r' hi
    cases i with
    | zero=>
     grind
    | succ i=>exact g1.step i r' (by simpa using hi)
   .intro i r' hi
    cases i with
    | zero=>
     grind
    | succ i=>exact g1.tm i r' (by simpa using hi)
section
variable {P:aE}{L:Lib}{self:bZ}{rs:List aO}{bK:Nat->Env}{bw:Nat->Hp}{bt:Nat->Nat}{vF:Nat->AV}
def Hg(hR:Na P L self rs bK bw bt vF){t i:Nat}:∀(k:Nat),i+k<=rs.length->(∀j r,i<=j->j<i+k->rs[j]? =D5 r->r.dst≠D5 t)->aj (bK (i+k)) t=aj (bK i) t
 | 0,_,_=>rfl
 | k+1,hk,h=>by
  have hr:rs[i+k]? =D5 rs[i+k]:=by simp_all
  rw[show i+(k+1)=i+k+1 by lia,hR.tm _ _ hr,Qs,yx (h (i+k) _ (by lia) (by lia) hr)];exact Hg hR k (by lia) (fun j r h1 h2=>h j r h1 (by lia))
def XW{r:aO}{tm:Env}{hp an:Hp}{ct aK:Nat}{v:AV}(hk:bf r.op<=1)(hv:eD P L self tm hp ct r=D5 (v,an,aK))(aB:∀id o,ai hp id=D5 o->id<ct):iv hp ct an aK:=by
 unfold eD at hv
 cases hw:pE tm r.guard with
 | none=>simp[hw] at hv
 | some b=>
  cases b with
  | true=>simp only[hw] at hv;exact Wy hk hv aB
  | false=>
   simp only[hw,yb,yj] at hv;obtain⟨rfl,rfl,rfl⟩:=hv;exact iv.refl aB
def Lg(hR:Na P L self rs bK bw bt vF){i:Nat}(aB:∀id o,ai (bw i) id=D5 o->id<bt i):∀(k:Nat),i+k<=rs.length->(∀j r,i<=j->j<i+k->rs[j]? =D5 r->bf r.op<=1)->iv (bw i) (bt i) (bw (i+k)) (bt (i+k))
 | 0,_,_=>iv.refl aB
 | k+1,hk,h=>by
  have ih:=Lg hR aB k (by lia) (fun j r h1 h2=>h j r h1 (by lia));have hr:rs[i+k]? =D5 rs[i+k]:=by simp_all
  exact ih.trans (XW (h (i+k) _ (by lia) (by lia) hr) (hR.step _ _ hr) ih.lt)
end
end
section
open Go
section
variable {tm:Env}{hp:Hp}{ct i:Nat}{r:aO}
def Lw{tm:Env}{t:Nat}:∀{l:List Nat},t∈l->aj (aY tm l) t=aj tm t
 | [],h=>by cases h
 | i::r,h=>by
  simp only[aY,aj]
  cases hb:yo i t with
  | true=>rw[yf hb];rfl
  | false=>
   rcases xn.1 h with e | h
   .simp_all
   .exact Lw h
def aiJ{P:aE}{L:Lib}{self:bZ}{tm':Env}{o:Op}{r:AV×Hp×Nat}(h:∀t,t∈jE o->aj tm' t=aj tm t)(hv:aW P L self tm hp ct o=D5 r):aW P L self tm' hp ct (iV o)=D5 r:=by
 cases o with
 | iS rs f xs=>
  simp only[jE,xD] at h;simp only[iV,aW] at hv ⊢
  rw[da (x:=f) fun t ht=>h t (.inl ht),Cx (xs:=xs) fun t ht=>h t (.inr ht)]
  cases hc:eb P L self hp ct .dyn (aw tm f) (db tm xs) with
  | none=>simp[hc] at hv
  | some q=>
   obtain⟨v1,aX,oE⟩:=q;simp only[hc] at hv
   cases hs:oW tm hp aX rs with
   | false=>rw[hs] at hv;cases hv
   | true=>
    rw[hs] at hv;simpa only[oW,yr] using hv
 | kx rs sz x v=>
  simp only[iV,aW] at hv ⊢
  rw[Cw (o:=.st sz x v) (tm:=tm) h]
  split at hv
  .rename_i id off hx
   cases hf:lf tm id rs with
   | false=>rw[hf] at hv;cases hv
   | true=>rw[hf] at hv;exact hv
  .cases hv
 | kQ rs sz b x v=>
  simp only[iV,aW] at hv ⊢
  rw[Cw (o:=.df sz b x v) (tm:=tm) h]
  cases hc:bV tm hp ct (.df sz b x v) with
  | none=>simp[hc] at hv
  | some q=>
   obtain⟨v1,aX,oE⟩:=q;simp only[hc] at hv
   cases hs:(EZ tm (aw tm x) rs||oW tm hp aX rs) with
   | false=>rw[hs] at hv;cases hv
   | true=>rw[hs] at hv;exact hv
 | pZ sz b x v=>
  rw[<-hv];simp only[jE,xD] at h;simp only[iV,aW]
  rw[da (x:=x) fun t ht=>h t (.inl ht),da (x:=v) fun t ht=>h t (.inr ht)]
 | call md f xs=>
  rw[<-hv];simp only[jE,xD] at h;simp only[iV,aW]
  rw[da (x:=f) fun t ht=>h t (.inl ht),Cx (xs:=xs) fun t ht=>h t (.inr ht)]
 | st s x y=>rw[<-hv];simp only[iV,aW];exact Cw h
 | pW kk x y z=>rw[<-hv];simp only[iV,aW];exact Cw h
 | pY x=>rw[<-hv];simp only[iV,aW];exact Cw h
 | df s b x y=>rw[<-hv];simp only[iV,aW];exact Cw h
 | p6 s x y=>rw[<-hv];simp only[iV,aW];exact Cw h
 | box s x=>rw[<-hv];simp only[iV,aW];rw[G3 (hp:=hp) h]
 | iY n s z ps=>rw[<-hv];simp only[iV,aW];rw[G3 (hp:=hp) h]
 | oh s b z x y=>rw[<-hv];simp only[iV,aW];rw[G3 (hp:=hp) h]
 | Ao=>exact hv
 | pX x=>rw[<-hv];simp only[iV,aW];rw[G3 (hp:=hp) h]
 | _=>rw[<-hv];simp only[iV,aW];rw[ag8 h]
def YG{P:aE}{L:Lib}{self:bZ}{an:Hp}{aK:Nat}{q:Op}{v:AV}(hk:bf q=0\/∃sz ag x,q=.ld sz ag x)(hv:aW P L self tm hp ct q=D5 (v,an,aK)):a7 tm hp q=D5 v/\an=hp/\aK=ct:=by
 have fb:∀{q:Op},(match a7 tm hp q with | some v=>D5 (v,hp,ct) | none=>(D6:fY))=D5 (v,an,aK)->a7 tm hp q=D5 v/\an=hp/\aK=ct:=by
  intro q h
  cases hm:a7 tm hp q with
  | none=>simp[hm] at h
  | some r=>
   simp only[hm,yb,yj] at h;obtain⟨rfl,rfl,rfl⟩:=h;exact⟨rfl,rfl,rfl⟩
 rcases hk with hk | ⟨sz,ag,x,rfl⟩
 .cases bE:q with
  | call md f xs=>subst bE;cases md<;>simp[bf] at hk
  | iS rs f xs=>subst bE;simp[bf] at hk
  | kx rs s x y=>subst bE;simp[bf] at hk
  | kQ rs s b x y=>subst bE;simp[bf] at hk
  | pZ s b x y=>subst bE;simp[bf] at hk
  | st s x y=>subst bE;simp[bf] at hk
  | pW kk x y z=>subst bE;simp[bf] at hk
  | pY x=>subst bE;simp[bf] at hk
  | df s b x y=>subst bE;simp[bf] at hk
  | p6 s x y=>subst bE;simp[bf] at hk
  | box s x=>subst bE;simp[bf] at hk
  | iY n s z ps=>subst bE;simp[bf] at hk
  | oh s b z x y=>subst bE;simp[bf] at hk
  | Ao=>subst bE;simp[bf] at hk
  | pX x=>subst bE;simp[bf] at hk
  | _=>exact bE▸fb (q:=q) (by rw[bE] at hv ⊢;simp only[aW] at hv;exact hv)
 .exact fb (q:=.ld sz ag x) (by simp only[aW] at hv;exact hv)
section
variable {O:bk}{H:Hint}{ops:Array yP}{π:Nat->Nat}{rs:List aO}{bK:Nat->Env}{bw:Nat->Hp}{bt:Nat->Nat}{vF:Nat->AV}{self:bZ}{ro:Option Nat}{Q:vX->Act->yi->Prop}
structure sf(O:bk)(H:Hint)(DK:bZ)(ops:Array yP)(π:Nat->Nat)(rs:List aO)(bK:Nat->Env)(bw:Nat->Hp)(bt:Nat->Nat)(vF:Nat->AV):Prop where
 run:Na O.prog O.aG DK rs bK bw bt vF
 len:rs.length=ops.size
 of:∀(i:Nat) (r:aO) (o:yP),rs[i]? =D5 r->ops[π i]? =D5 o->Da O.P H ops r o
 pair:∀(i j:Nat) (a b:aO),i<j->rs[i]? =D5 a->rs[j]? =D5 b->Ord ops (π i) (π j)\/Dk a b ((rs.take j).drop (i+1))
 back:∀(i:Nat) (o:yP),ops[i]? =D5 o->∀e,e∈o.after->Region.binds .any e=ycG->e.on<i
def jR(rs:List aO)(i:Nat):Prop:=∃r,rs[i]? =D5 r/\bf r.op=2
def RC(rs:List aO):∀(k i:Nat),i+k=rs.length->∃c,i<=c/\c<=rs.length/\(∀j,i<=j->j<c->¬jR rs j)/\(c=rs.length\/jR rs c)
 | 0,i,h=>⟨i,yq _,by lia,fun j h1 h2=>by lia,.inl (by lia)⟩
 | k+1,i,h=>by
  rcases uI (jR rs i) with hw | hw
  .grind
  .have ⟨c,h1,h2,h3,h4⟩:=RC rs k (i+1) (by lia)
   grind
def HA{rs:List aO}(hr:rs[i]? =D5 r)(hw:¬jR rs i):bf r.op<=1:=by
 have h:bf r.op≠2:=fun e=>hw ⟨r,hr,e⟩
 have:bf r.op<=2:=by
  cases r.op with
  | pV k x lo hi=>cases k<;>simp[bf]
  | len k x=>rcases k with _ | _ | k<;>simp[bf]
  | call md f xs=>cases md<;>simp[bf]
  | _=>simp[bf]
 lia
def Oz(O:bk)(rs:List aO)(bK:Nat->Env)(D:Nat->Prop)(m:Mp)(S:Nat->Prop)(w:yi)(a:Act):Prop:=
 ∀t,∃j,j<=rs.length/\(∀(i:Nat) (r:aO),rs[i]? =D5 r->r.dst=D5 t->(D i↔i<j))/\ae O.ab m S w (aj (bK j) t) (a.tmps.getD t undef)
def amD{D:Nat->Prop}{m:Mp}{S:Nat->Prop}{w:yi}{a:Act}(hG:sf O H self ops π rs bK bw bt vF)(hT:Oz O rs bK D m S w a)(hr:rs[i]? =D5 r)(hi:¬D i)(dT:∀j,Ord ops (π j) (π i)->D j)(eY:∀j,Ord ops (π i) (π j)->¬D j):∀t,t∈CL r->ae O.ab m S w (aj (bK i) t) (a.tmps.getD t undef):=by
 intro t ht;obtain⟨j,h1,h2,h3⟩:=hT t;have Ay:i<rs.length:=(xC.1 hr).1;have e:aj (bK j) t=aj (bK i) t:=by
  rcases Nat.le_total j i with J5 | oF
  .obtain ⟨k,rfl⟩:∃k,i=j+k:=⟨i-j,by omega⟩;refine (Hg hG.run k (by omega) (fun l rl g1 g2 hl hd=>?_)).symm;have hnD:¬D l:=fun hD=>by have:=(h2 l rl hl hd).1 hD;omega
   rcases hG.pair l (j+k) rl r (by omega) hl hr with ho | hf
   .exact hnD (dT l ho)
   .exact ((KL hf.1).1 t hd).1 ht
  .obtain ⟨k,rfl⟩:∃k,j=i+k:=⟨j-i,by omega⟩;refine Hg hG.run k h1 (fun l rl g1 g2 hl hd=>?_);have hD:D l:=(h2 l rl hl hd).2 (by omega);rcases vt g1 with rfl | g1
   .exact hi hD
   .rcases hG.pair i l r rl g1 hr hl with ho | hf
    .exact eY l ho hD
    .exact (KL hf.1).2 t hd ht
 rw[<-e];exact h3
def ZU{D D':Nat->Prop}{m m':Mp}{S S':Nat->Prop}{w w':yi}{a:Act}{u:yg}(hG:sf O H self ops π rs bK bw bt vF)(hT:Oz O rs bK D m S w a)(hr:rs[i]? =D5 r)(hi:¬D i)(dT:∀j,Ord ops (π j) (π i)->D j)(eY:∀j,Ord ops (π i) (π j)->¬D j)(hD:∀j,D' j↔D j\/j=i)(hm:cL m m')(hS:∀b,S b->S' b)(hw:fg S w w')(hd:∀d,r.dst=D5 d->d<a.tmps.size)(hv:ae O.ab m' S' w' (vF i) u):Oz O rs bK D' m' S' w' (a.put r.dst u):=by
 intro t;have Ay:i<rs.length:=(xC.1 hr).1;by_cases FA:r.dst=D5 t
 .refine ⟨i+1,Ay,fun l rl hl DL=>?_,?_⟩
  .rw [hD];constructor
   .rintro (h | h)
    .rcases wQ l (i+1) with g | g
     .exact g
     .rcases hG.pair i l r rl (by omega) hr hl with ho | hf
      .exact (eY l ho h).elim
      .exact (((KL hf.1).1 t FA).2 DL).elim
    .omega
   .intro h;rcases vt (vE h) with h | h
    .exact .inr h
    .rcases hG.pair l i rl r h hl hr with ho | hf
     .exact .inl (dT l ho)
     .exact (((KL hf.1).1 t DL).2 FA).elim
  .rw [hG.run.tm i r hr,Qs,Qt hd,yN FA,yN FA];exact hv
 .obtain ⟨j,h1,h2,h3⟩:=hT t;refine⟨j,h1,fun l rl hl DL=>?_,?_⟩
  .rw [hD,<-h2 l rl hl DL];constructor
   .rintro (h | h)
    .exact h
    .subst h;rw[hr] at hl;injection hl with hl
     subst hl;exact (FA DL).elim
   .exact .inl
  .rw [Qt hd,yx FA];exact kZ hm hS hw _ _ h3
def WA{tm:Env}{hp an:Hp}{ct aK id off sz mE t:Nat}{ag:Bool}{x y:X}{v v':AV}:∀{l:List (Nat×Bool×Nat)},lf tm id l=ycG->(sz,ag,t)∈l->aw tm x=.ptr id off->
  bV tm hp ct (.st mE x y)=D5 (v',an,aK)->fD hp sz ag (aj tm t)=D5 v->fD an sz ag (aj tm t)=D5 v
 | [],_,h,_,_,_=>by cases h
 | (s,g,u)::r,h,hm,hx,hw,hv=>by
  simp only[lf,ye] at h;rcases xn.1 hm with e | hm
  .simp only [yj] at e;obtain⟨rfl,rfl,rfl⟩:=e;have h1:=h.1
   split at h1
   .rename_i j o hj;have dV:j≠id:=by
     intro e
     simp_all
    rw[hj] at hv ⊢;simp only[bV,hx] at hw;have key:∀ob,ai (aV hp id ob) j=ai hp j:=fun ob=>by rw[rN,yx (ycn dV)]
    split at hw
    .rename_i pu ex z cs qd;generalize (yo _ _&&yz _ _&&b5 _)=bb at hw
     cases bb with
     | false=>cases hw
     | true=>
      obtain⟨_,rfl,_⟩:=hw;simp only[fD,key] at hv ⊢;exact hv
    .cases hw
   .rename_i cs hj;rw[hj] at hv ⊢;simpa only[fD] using hv
   .cases h1
  .exact WA h.2 hm hx hw hv
def Pn{id j:Nat}(h:j≠id):∀(hp:Hp),ai (cl hp id) j=ai hp j
 | []=>rfl
 | (k,o)::r=>by
  simp only[cl,ai]
  cases h1:yo k id with
  | true=>
   have e:=yf h1;simp only[yr];rw[Pn h r]
   cases h2:yo k j with
   | true=>exact absurd (yf h2▸e) h
   | false=>rfl
  | false=>
   simp only[yJ,ai];rw[Pn h r]
def aiK{an:Hp}{aK sz mE bb t:Nat}{ag:Bool}{x y:X}{v v':AV}{l:List (Nat×Bool×Nat)}(h:EZ tm (aw tm x) l=ycG)(hm:(sz,ag,t)∈l)(hw:bV tm hp ct (.df mE bb x y)=D5 (v',an,aK))(aB:∀id o,ai hp id=D5 o->id<ct)(hv:fD hp sz ag (aj tm t)=D5 v):fD an sz ag (aj tm t)=D5 v:=by
 have grow:∀{o:Obj},an=(ct,o)::hp->fD an sz ag (aj tm t)=D5 v:=fun {o} e=>by
  subst e;refine QV (fun id o' iH=>⟨o',?_,iI.refl o'⟩) hv
  rw[eO,yx (by have:=aB id o' iH;omega)];exact iH
 simp only[bV] at hw
 cases hs:iq hp mE (aw tm y) with
 | none=>simp[hs] at hw
 | some q=>
  obtain⟨mm,new⟩:=q;simp only[hs] at hw;cases hx:aw tm x<;>rw[hx] at hw h<;>simp only[EZ,yA] at h<;>(try simp only at hw)
  case ah=>
   cases hb:yo mm 0 with
   | true=>simp only[hb,yr,yb,yj] at hw;rw[<-hw.2.1];exact hv
   | false=>
    rw[hb] at hw;simp only[yJ] at hw;generalize (yz mm room&&(yz (mm*bb) room&&yF 0 mE))=b2 at hw
    cases b2 with
    | false=>cases hw
    | true=>simp only[yr,yb,yj] at hw;exact grow hw.2.1.symm
  case aq ex n cs=>
   cases ex with
   | false=>simp at hw
   | true=>
    simp only at hw
    cases hb:yo mm 0 with
    | true=>simp only[hb,yr,yb,yj] at hw;rw[<-hw.2.1];exact hv
    | false=>
     rw[hb] at hw;simp only[yJ] at hw;generalize (yz (n+mm) room&&(yz ((n+mm)*bb) room&&(yo cs.length (n*mE)&&yF 0 mE)))=b2 at hw
     cases b2 with
     | false=>cases hw
     | true=>simp only[yr,yb,yj] at hw;exact grow hw.2.1.symm
  case av id o n=>
   split at hw
   .rename_i pu ex z cs qd;generalize (yo z mE&&_)=b2 at hw
    cases b2 with
    | false=>cases hw
    | true=>
     simp only[yr,yb,yj] at hw;obtain⟨_,rfl,_⟩:=hw;clear qd;have key:∀l,lf tm id l=ycG->(sz,ag,t)∈l->(∃j off,aj tm t=.ptr j off/\j≠id)\/∃cs,aj tm t=.bJ cs:=by
      intro l
      induction l with
      | nil=>intro _ hm;cases hm
      | cons e l ih=>
       obtain⟨s,g,u⟩:=e;intro h hm;simp only[lf,ye] at h;rcases xn.1 hm with e | hm
       .simp only [yj] at e;obtain⟨rfl,rfl,rfl⟩:=e;have h1:=h.1
        split at h1
        .rename_i j off hj;refine .inl ⟨j,off,hj,fun e=>?_⟩;subst e;simp at h1
        .rename_i cs hj;exact .inr ⟨cs,hj⟩
        .cases h1
       .exact ih h.2 hm
     rcases key l h hm with ⟨j,off,e,dV⟩ | ⟨cW,e⟩
     .rw [e] at hv ⊢;simp only[fD] at hv ⊢;have auT:ai hp j≠D6:=by
       intro e0;rw[e0] at hv;cases hv
      cases hj:ai hp j with
      | none=>exact absurd hj auT
      | some ob=>
       have:=aB j ob hj
       rw[eO,yx (by omega),Pn dV,hj];rw[hj] at hv;exact hv
     .rw [e] at hv ⊢;simpa only[fD] using hv
   .cases hw
def Wq{D:Nat->Prop}{i c:Nat}{r:aO}{sz t:Nat}{ag:Bool}(hG:sf O H self ops π rs bK bw bt vF)(hr:rs[i]? =D5 r)(hi:¬D i)(FB:r.guard=D6/\r.op=.ld sz ag (.t t))(hc:c<=rs.length)(hW:∀j,j<c->jR rs j->D j)(eY:∀j,Ord ops (π i) (π j)->¬D j)(aB:∀j,j<=c->∀id o,ai (bw j) id=D5 o->id<bt j):∀k,i+1+k<=c->fD (bw (i+1+k)) sz ag (aj (bK i) t)=D5 (vF i)
 | 0,hk=>by
  have h1:=hG.run.step i r hr;simp only[eD,FB.1,pE,FB.2] at h1;obtain⟨h2,h3,h4⟩:=YG (.inr ⟨_,_,_,rfl⟩) h1;simp only[a7,aw] at h2;rw[yS,h3];exact h2
 | k+1,hk=>by
  have ih:=Wq hG hr hi FB hc hW eY aB k (by omega);have hl:i+1+k<rs.length:=by omega
  have hj:rs[i+1+k]? =D5 rs[i+1+k]:=by simp[hl]
  have aQ:=hG.run.step _ _ hj;rw[show i+1+(k+1)=i+1+k+1 by omega];rcases uI (jR rs (i+1+k)) with hw | hw
  .have hD:=hW _ (by omega) hw;rcases hG.pair i (i+1+k) r _ (by omega) hr hj with ho | hf
   .exact (eY _ ho hD).elim
   .obtain ⟨Fz,eW⟩:=hf;obtain⟨cm,h5,h6⟩:=hw;rw[hj] at h5;injection h5 with h5
    subst h5;rcases eW with eW | eW
    .have h1k:bf r.op=1:=by rw[FB.2];rfl
     simp only[Hd,h1k,h6] at eW;cases eW
    .unfold Hx at eW;simp only[FB.1,FB.2] at eW;generalize gg:(rs[i+1+k]).op=q at eW;have R5:C2 t (r::(rs.take (i+1+k)).drop (i+1))=ycG->aj (bK (i+1+k)) t=aj (bK i) t:=by
      intro auU;have kS:=W9 auU;rw[show i+1+k=i+(1+k) by omega];refine Hg hG.run (1+k) (by omega) (fun l rl g1 g2 rq=>kS rl ?_);rcases vt g1 with rfl | g1
      .rw [hr] at rq;injection rq with rq;subst rq;exact wm
      .refine xG _ ?_
       have:((rs.take (i+1+k)).drop (i+1))[l-(i+1)]? =D5 rl:=by
        rw[List.getElem?_drop,List.getElem?_take_of_lt (by omega),show i+1+(l-(i+1))=l by omega];exact rq
       exact List.mem_of_getElem? this
     unfold eD at aQ
     cases hg:pE (bK (i+1+k)) (rs[i+1+k]).guard with
     | none=>simp[hg] at aQ
     | some b=>
      cases b with
      | false=>
       simp only[hg,yb,yj] at aQ;rw[<-aQ.2.1];exact ih
      | true=>
       simp only[hg,gg] at aQ;cases q<;>simp only[yA] at eW
       case iS B3 fx xs=>
        simp only[ye] at eW;have iD:=Lf eW.1;have Az:=R5 eW.2;simp only[aW] at aQ
        cases fG:eb O.prog O.aG self (bw (i+1+k)) (bt (i+1+k)) .dyn (aw (bK (i+1+k)) fx) (db (bK (i+1+k)) xs) with
        | none=>simp[fG] at aQ
        | some z=>
         obtain⟨v1,aX,oE⟩:=z;simp only[fG] at aQ
         cases hs:oW (bK (i+1+k)) (bw (i+1+k)) aX B3 with
         | false=>rw[hs] at aQ;cases aQ
         | true=>
          rw[hs] at aQ;simp only[yr,yb,yj] at aQ;obtain⟨_,h8,_⟩:=aQ;rw[<-h8,<-Az];exact Pm hs iD (by rw[Az];exact ih)
       case kx B3 mE x v=>
        simp only[ye] at eW;have iD:=Lf eW.1;have Az:=R5 eW.2;simp only[aW] at aQ
        split at aQ
        .rename_i id off hx
         cases hs:lf (bK (i+1+k)) id B3 with
         | false=>rw[hs] at aQ;cases aQ
         | true=>
          rw[hs] at aQ;simp only[yr] at aQ;rw[<-Az];exact WA hs iD hx aQ (by rw[Az];exact ih)
        .cases aQ
       case kQ B3 mE b x v=>
        simp only[ye] at eW;have iD:=Lf eW.1;have Az:=R5 eW.2;simp only[aW] at aQ
        cases fG:bV (bK (i+1+k)) (bw (i+1+k)) (bt (i+1+k)) (.df mE b x v) with
        | none=>simp[fG] at aQ
        | some z=>
         obtain⟨v1,aX,oE⟩:=z;simp only[fG] at aQ
         cases hs:(EZ (bK (i+1+k)) (aw (bK (i+1+k)) x) B3||oW (bK (i+1+k)) (bw (i+1+k)) aX B3) with
         | false=>rw[hs] at aQ;cases aQ
         | true=>
          rw[hs] at aQ;simp only[yr,yb,yj] at aQ;obtain⟨_,h8,_⟩:=aQ;rw[<-h8,<-Az];rcases (ub _ _).mp hs with hs | hs
          .exact aiK hs iD fG (aB _ (by omega)) (by rw[Az];exact ih)
          .exact Pm hs iD (by rw[Az];exact ih)
  .exact QV (XW (HA hj hw) aQ (aB _ (by omega))).le ih
structure Inv(O:bk)(ops:Array yP)(rs:List aO)(bK:Nat->Env)(bw:Nat->Hp)(bt:Nat->Nat)(D:Nat->Prop)(m0:Mp)(S0:Nat->Prop)(w0:yi)(n0:Nat)(d0:List tW)(st c:Nat)(m:Mp)(S:Nat->Prop)(w:yi)(a:Act):Prop where
 UA:st<=c
 cn:c<=rs.length
 before:∀i,i<st->jR rs i->D i
 FC:∀i,st<=i->i<c->¬jR rs i
 cut:c=rs.length\/(jR rs c/\¬D c)
 behind:∀(i:Nat) (r:aO),c<=i->rs[i]? =D5 r->1<=bf r.op->¬D i
 hp:aP O m S w (bw c) (bt c)
 UB:∀id p,m id=D5 p->id<bt st\/∃i,st<=i/\i<c/\D i/\bt i<=id/\id<bt (i+1)
 tm:Oz O rs bK D m S w a
 OA:bR m0 S0 w0 (bw 0) m S w (bw c) (bt 0)
 ge:bt 0<=bt c
 size:a.tmps.size=n0
 defers:a.defers=d0
 FD:st=0\/jR rs (st-1)
 FE:∀j,j<=c->∀id o,ai (bw j) id=D5 o->id<bt j
end
end
end
section
open Go
section
variable {O:bk}{H:Hint}{ops:Array yP}{π:Nat->Nat}{rs:List aO}{bK:Nat->Env}{bw:Nat->Hp}{bt:Nat->Nat}{vF:Nat->AV}{self:bZ}{ro:Option Nat}{Q:vX->Act->yi->Prop}
variable {D D':Nat->Prop}{m0:Mp}{S0:Nat->Prop}{w0:yi}{n0:Nat}{d0:List tW}{st c i:Nat}{m:Mp}{S:Nat->Prop}{w:yi}{a:Act}{r:aO}{o:yP}
def Lh(hG:sf O H self ops π rs bK bw bt vF)(hI:Inv O ops rs bK bw bt D m0 S0 w0 n0 d0 st c m S w a){x y:Nat}(hx:st<=x)(hxy:x<=y)(hy:y<=c):iv (bw x) (bt x) (bw y) (bt y):=by
 obtain⟨k,rfl⟩:∃k,y=x+k:=⟨y-x,by omega⟩
 have:=hI.cn
 exact Lg hG.run (hI.FE x (by omega)) k (by omega) (fun j r h1 h2 hr=>HA hr (hI.FC j (by omega) (by omega)))
def Lx(hG:sf O H self ops π rs bK bw bt vF)(hI:Inv O ops rs bK bw bt D m0 S0 w0 n0 d0 st c m S w a)(hr:rs[i]? =D5 r)(hi:¬D i)(dT:∀j,Ord ops (π j) (π i)->D j)(eY:∀j,Ord ops (π i) (π j)->¬D j)(hD:∀j,D' j↔D j\/j=i)(hd:∀d,r.dst=D5 d->d<a.tmps.size)(hw:¬jR rs i)(Av:bf r.op=0\/i<c){m':Mp}{S':Nat->Prop}{w':yi}{u:yg}(k1:aP O m' S' w' (bw c) (bt c))(k2:cL m m')(k3:∀id p,m' id=D5 p->m id=D5 p\/(st<=i/\i<c/\bt i<=id/\id<bt (i+1)))(k4:ae O.ab m' S' w' (vF i) u)(k5:bR m S w (bw c) m' S' w' (bw c) (bt c)):
  Inv O ops rs bK bw bt D' m0 S0 w0 n0 d0 st c m' S' w' (a.put r.dst u) where
 UA:=hI.UA
 cn:=hI.cn
 before j hj DM:=(hD j).2 (.inl (hI.before j hj DM))
 FC:=hI.FC
 cut:=hI.cut.imp (fun h=>h) (fun h=>⟨h.1,fun hc=>((hD c).1 hc).elim h.2 (fun e=>hw (e▸h.1))⟩)
 behind j rj hj DN hk DO:=((hD j).1 DO).elim (hI.behind j rj hj DN hk) (fun e=>by
  subst e;rw[hr] at DN;injection DN with DN
  subst DN
  rcases Av with h | h<;>omega)
 hp:=k1
 UB id p hp:=by
  rcases k3 id p hp with h | ⟨h1,h2,h3,h4⟩
  .rcases hI.UB id p h with h | ⟨j,g1,g2,g3,g4,g5⟩
   .exact .inl h
   .exact .inr ⟨j,g1,g2,(hD j).2 (.inl g3),g4,g5⟩
  .exact .inr ⟨i,h1,h2,(hD i).2 (.inr rfl),h3,h4⟩
 tm:=ZU hG hI.tm hr hi dT eY hD k2 k5.sub (fun b hb=>k5.still b hb) hd k4
 OA:=hI.OA.trans (k5.so hI.ge)
 ge:=hI.ge
 size:=by rw[Lv];exact hI.size
 defers:=by rw[PG];exact hI.defers
 FD:=hI.FD
 FE:=hI.FE
def ZV(hG:sf O H self ops π rs bK bw bt vF)(hI:Inv O ops rs bK bw bt D m0 S0 w0 n0 d0 st c m S w a)(hr:rs[c]? =D5 r)(hi:¬D c)(dT:∀j,Ord ops (π j) (π c)->D j)(eY:∀j,Ord ops (π c) (π j)->¬D j)(hD:∀j,D' j↔D j\/j=c)(hd:∀d,r.dst=D5 d->d<a.tmps.size)(hw:jR rs c){m':Mp}{S':Nat->Prop}{w':yi}{u:yg}(k1:aP O m' S' w' (bw (c+1)) (bt (c+1)))(k2:bt c<=bt (c+1))(k4:ae O.ab m' S' w' (vF c) u)(k5:bR m S w (bw c) m' S' w' (bw (c+1)) (bt c)):
  ∃c' BW,Inv O ops rs bK bw bt D' m0 S0 w0 n0 d0 (c+1) c' m' BW w' (a.put r.dst u):=by
 have fG:c<rs.length:=(xC.1 hr).1;obtain⟨c',h1,h2,h3,h4⟩:=RC rs (rs.length-(c+1)) (c+1) (by omega);obtain⟨k,rfl⟩:∃k,c'=c+1+k:=⟨c'-(c+1),by omega⟩;have hg:∀k',k'<=k->iv (bw (c+1)) (bt (c+1)) (bw (c+1+k')) (bt (c+1+k')):=fun k' nn=>
  Lg hG.run k1.aB k' (by omega) (fun j r g1 g2 hr=>HA hr (h3 j g1 (by omega)))
 obtain⟨BW,g1,g2,g3,g4⟩:=Lu k1 (hg k (yq _));have hml:cL m m':=fun id p h=>k5.old id p (hI.hp.lt id p h) h
 refine⟨c+1+k,BW,⟨by omega,h2,?_,h3,?_,?_,g1,fun id p h=>.inl (k1.lt id p h),?_,?_,?_,by rw[Lv];exact hI.size,by rw[PG];exact hI.defers,.inr (by simpa using hw),?_⟩⟩
 .intro j hj DM;rcases vt (vE hj) with e | hj
  .exact (hD j).2 (.inr e)
  .rcases wQ j st with g | g
   .exact (hD j).2 (.inl (hI.before j g DM))
   .exact (hI.FC j g hj DM).elim
 .refine h4.imp (fun h=>h) (fun h=>⟨h,fun hc=>?_⟩);obtain⟨rc,UC,Av⟩:=h;rcases (hD _).1 hc with g | g
  .exact hI.behind _ rc (by omega) UC (by omega) g
  .omega
 .intro j rj hj DN hk DO;rcases (hD j).1 DO with g | g
  .exact hI.behind j rj (by omega) DN hk g
  .omega
 .exact ZU hG hI.tm hr hi dT eY hD hml (fun b hb=>g2 b (k5.sub b hb)) (fun b hb=>k5.still b hb) hd (kZ (fun _ _ h=>h) g2 (fun _ _=>rfl) _ _ k4)
 .exact (hI.OA.trans (k5.so hI.ge)).trans (g4 (bt 0))
 .have:=(hg k (yq _)).qc
  have:=hI.ge
  omega
 .intro j hj;rcases wQ c j with g | g
  .obtain ⟨k',rfl⟩:∃k',j=c+1+k':=⟨j-(c+1),by omega⟩;exact (hg k' (by omega)).lt
  .exact hI.FE j g
def akB{q:Op}(h:bf q≠2):iV q=q:=by
 cases q<;>first
  | rfl
  | exact absurd rfl h
def Xa{x y:aO}{l:List aO}(h:Dk x y l):¬(bf x.op=2/\1<=bf y.op)/\(1<=bf x.op->bf y.op=2->x.guard=D6/\∃sz ag t,x.op=.ld sz ag (.t t)):=by
 have⟨_,h⟩:=h;have ex:Hx x y l=ycG->x.guard=D6/\∃sz ag t,x.op=.ld sz ag (.t t):=by
  intro he;unfold Hx at he
  split at he
  .rename_i sz ag t B3 fx xs h1 h2 h3;exact⟨h1,sz,ag,t,h2⟩
  .rename_i h1 h2 h3;exact⟨h1,_,_,_,h2⟩
  .rename_i h1 h2 h3;exact⟨h1,_,_,_,h2⟩
  .cases he
 have k2:∀q:Op,bf q<=2:=fun q=>by
  cases q with
  | pV k x lo hi=>cases k<;>simp[bf]
  | len k x=>rcases k with _ | _ | k<;>simp[bf]
  | call md f xs=>cases md<;>simp[bf]
  | _=>simp[bf]
 constructor
 .rintro ⟨h1,h2⟩;rcases h with h | h
  .have:bf y.op=1\/bf y.op=2:=by have:=k2 y.op;lia
   rcases this with e | e<;>(simp only[Hd,h1,e] at h;cases h)
  .have ⟨_,sz,ag,t,e⟩:=ex h;rw[e] at h1;cases h1
 .intro h1 h2;rcases h with h | h
  .have:bf x.op=1\/bf x.op=2:=by have:=k2 x.op;lia
   rcases this with e | e<;>(simp only[Hd,h2,e] at h;cases h)
  .exact ex h
def akC(hC:nO O self)(hH:eF O H)(hG:sf O H self ops π rs bK bw bt vF)(hn:H.n<=n0)(hI:Inv O ops rs bK bw bt D m0 S0 w0 n0 d0 st c m S w a)(hr:rs[i]? =D5 r)(ho:ops[π i]? =D5 o)(hi:¬D i)(dT:∀j,Ord ops (π j) (π i)->D j)(eY:∀j,Ord ops (π i) (π j)->¬D j)(hD:∀j,D' j↔D j\/j=i){K:Act->yi->Prop}(hK:∀st' c' m' S' w' a',Inv O ops rs bK bw bt D' m0 S0 w0 n0 d0 st' c' m' S' w' a'->K a' w'):wpOpIn (WF ro) 0 O.P ops Q (π i) K a w:=by
 have cB:=hG.of i r o hr ho;have SN:=amD hG hI.tm hr hi dT eY;have aQ:=hG.run.step i r hr;have hd:∀d,r.dst=D5 d->d<a.tmps.size:=by
  rw[cB.dst];exact YF cB.ok (by rw[hI.size];exact hn)
 have kT:=hI.UA;have jQ:1<=bf r.op->i<=c:=by
  intro hk;rcases wQ c i with UD | UD
  .have Ay:i<rs.length:=(xC.1 hr).1;rcases hI.cut with h | ⟨⟨rc,UC,Av⟩,JR⟩
   .omega
   .rcases hG.pair c i rc r UD UC hr with h | h
    .exact (JR (dT c h)).elim
    .exact ((Xa h).1 ⟨Av,hk⟩).elim
  .exact UD
 have hwc:jR rs i->i=c:=by
  intro hw;obtain⟨cm,h1,h2⟩:=hw;rw[hr] at h1;injection h1 with h1
  subst h1;have h3:=jQ (by omega);rcases vt h3 with e | h3
  .exact e
  .rcases wQ i st with g | g
   .exact (hi (hI.before i g ⟨r,hr,h2⟩)).elim
   .exact (hI.FC i g h3 ⟨r,hr,h2⟩).elim
 have aB:1<=bf r.op->¬jR rs i->i<c:=by
  intro hk hw;rcases vt (jQ hk) with e | h
  .subst e;rcases hI.cut with h | h
   .have Ay:i<rs.length:=(xC.1 hr).1;omega
   .exact (hw h.1).elim
  .exact h
 have Av:¬jR rs i->bf r.op=0\/i<c:=fun hw=>by
  rcases xg (bf r.op) with h | h
  .exact .inl h
  .exact .inr (aB h hw)
 unfold wpOpIn;simp only[ho];unfold eD at aQ
 cases OB:pE (bK i) r.guard with
 | none=>simp[OB] at aQ
 | some b=>
  have Uz:=XT cB.guard (fun t ht=>SN t (by simp[CL,ht])) OB;rw[Uz]
  cases b with
  | false=>
   simp only[OB,yb,yj] at aQ;obtain⟨hv,hh,hc⟩:=aQ;simp only[yA,xq];refine⟨fun _ _=>trivial,?_⟩;have dl:∀m S w,ae O.ab m S w (vF i) undef:=fun m S w=>by rw[<-hv];simp[ae,ax,undef]
   rw[<-cB.dst];rcases uI (jR rs i) with hw | hw
   .have e:=hwc hw;subst e;obtain⟨c',BW,h⟩:=ZV hG hI hr hi dT eY hD hd hw (m':=m) (S':=S) (w':=w) (u:=undef) (by rw[<-hh,<-hc];exact hI.hp) (by omega) (dl _ _ _) (by rw[<-hh];exact bR.refl)
    exact hK _ _ _ _ _ _ h
   .exact hK _ _ _ _ _ _ (Lx hG hI hr hi dT eY hD hd hw (Av hw) (m':=m) (S':=S) (w':=w) (u:=undef) hI.hp cL.refl (fun _ _ h=>.inl h) (dl _ _ _) bR.refl)
  | true=>
   simp only[OB] at aQ;simp only[xN];have kS:=Wz cB.op aQ;have J6:bN O m S w (aY (bK i) (jE r.op)) a.tmps:=fun t=>by
    rcases uI (t∈jE r.op) with h | h
    .rw [Lw h];exact SN t (by simp[CL,h])
    .have:aj (aY (bK i) (jE r.op)) t=.undef:=by
      clear SN aQ;revert h;generalize jE r.op=l;intro h
      induction l with
      | nil=>rfl
      | cons x l ih=>
       simp only[aY,aj];have hx:yo x t=ycH:=by
        cases hq:yo x t with
        | false=>rfl
        | true=>exact absurd (by rw[yf hq];exact wm) h
       rw[hx];exact ih (fun h'=>h (xG _ h'))
     rw[this];simp only[ae]
   have zc:aW O.prog O.aG self (aY (bK i) (jE r.op)) (bw i) (bt i) (iV r.op)=D5 (vF i,bw (i+1),bt (i+1)):=
    aiJ (fun t ht=>Lw ht) aQ
   have aaH:¬jR rs i->iV r.op=r.op:=fun hw=>akB (fun h=>hw ⟨r,hr,h⟩)
   have now:¬jR rs i->a7 (aY (bK i) (jE r.op)) (bw c) r.op=D5 (vF i)->Oper.wpIn (WF ro) 0 O.P o a w K Q:=by
    intro hw fb;by_cases B2:∃n sz z ps,r.op=.ol n sz z ps
    .obtain ⟨n,sz,z,ps,B2⟩:=B2;have BY:bf r.op=0:=by rw[B2];rfl
     have auV:aW O.prog O.aG self (aY (bK i) (jE r.op)) (bw c) (bt c) r.op=D5 (vF i,bw c,bt c):=by
      rw[B2] at fb ⊢;simp only[aW,fb]
     refine quiet_step (Hq:=bw c) (cH:=bt c) hC hH (by omega) cB.op kS auV cz.refl (yq _) hI.hp.aB (fun id h1 h2=>by omega) J6 hI.hp (fun u m' S' w' k1 k2 k3 k4 k5=>?_);rw[<-cB.dst];exact hK _ _ _ _ _ _ (Lx hG hI hr hi dT eY hD hd hw (.inl BY) k1 k2 (fun id p h=>.inl ((k3 id p h).resolve_right (by omega))) k4 k5)
    have gg:∃k,r.op=aM O.P H k o:=by
     rcases cB.op with h | ⟨cc,f,rr,_,_,h⟩ | ⟨_,_,_,_,_,_,_,h⟩ | ⟨_,_,_,_,_,_,_,h⟩ | ⟨_,_,_,_,_,_,h⟩ | ⟨_,_,_,_,_,_,h⟩
     .exact h
     .rw [h] at fb;simp[a7] at fb
     .rw [h] at fb;simp[a7] at fb
     .rw [h] at fb;simp[a7] at fb
     .rw [h] at fb;simp[a7] at fb
     .exact (B2 ⟨_,_,_,_,h⟩).elim
    obtain⟨k,hk⟩:=gg;rw[hk] at fb;rw[hk] at J6;obtain⟨u,h1,h2⟩:=ZG hH J6 hI.hp fb;refine Ez kS h1 (.inl rfl) ?_;rw[<-cB.dst];exact hK _ _ _ _ _ _ (Lx hG hI hr hi dT eY hD hd hw (Av hw) hI.hp cL.refl (fun _ _ h=>.inl h) h2 bR.refl)
   rcases uI (jR rs i) with hw | hw
   .have e:=hwc hw;subst e;refine YE hC hH (ahM cB.op) kS zc J6 hI.hp (fun u m' S' w' k1 k2 k3 k4=>?_);rw[<-cB.dst];obtain⟨c',BW,h⟩:=ZV hG hI hr hi dT eY hD hd hw k1 k2 k3 k4;exact hK _ _ _ _ _ _ h
   .rcases xg (bf r.op) with hk | hk
    .have zc:=aaH hw▸zc;obtain⟨h1,_,_⟩:=YG (.inl hk) zc;exact now hw (by rw[aiA hk (bw c) (bw i)];exact h1)
    .have Fu:=aB hk hw;rcases wQ i st with SO | SO
     .
      rcases hI.FD with h0 | h0
      .omega
      .have aX:D (st-1):=hI.before _ (by omega) h0;have dV:i≠st-1:=fun e=>hi (e▸aX)
       obtain⟨rp,hrp,gi⟩:=h0;rcases hG.pair i (st-1) r rp (by omega) hr hrp with h | h
       .exact (eY _ h aX).elim
       .obtain ⟨hg,sz,ag,t,gg⟩:=(Xa h).2 hk gi;have hl:=Wq (c:=c) hG hr hi ⟨hg,gg⟩ hI.cn (fun j hj DM=>by
         rcases wQ j st with g | g
         .exact hI.before j g DM
         .exact (hI.FC j g hj DM).elim) eY hI.FE (c-(i+1)) (by omega)
        rw[show i+1+(c-(i+1))=c by omega] at hl;refine now hw ?_;rw[gg];simp only[a7,aw];rw[Lw (by simp[jE,iU])];exact hl
     .have p9:=Lh hG hI (x:=i+1) (y:=c) (by omega) Fu (yq _);have OC:=Lh hG hI (x:=st) (y:=i) (yq _) SO (by omega)
      refine quiet_step (Hq:=bw c) (cH:=bt c) hC hH (HA hr hw) cB.op kS (aaH hw▸zc) p9.le p9.qc (hI.FE i (by omega)) ?_ J6 hI.hp (fun u m' S' w' k1 k2 k3 k4 k5=>?_)
      .intro id h1 h2
       cases hm:m id with
       | none=>rfl
       | some p=>
        rcases hI.UB id p hm with h | ⟨j,q1,q2,q3,q4,q5⟩
        .have:=OC.qc;omega
        .rcases Nat.lt_trichotomy j i with g | g | g
         .have:=(Lh hG hI (x:=j+1) (y:=i) (by omega) g (by omega)).qc;omega
         .subst g;exact (hi q3).elim
         .have:=(Lh hG hI (x:=i+1) (y:=j) (by omega) g (by omega)).qc;omega
      .rw [<-cB.dst];exact hK _ _ _ _ _ _ (Lx hG hI hr hi dT eY hD hd hw (.inr Fu) k1 k2 (fun id p h=>(k3 id p h).imp (fun h=>h) (fun h=>⟨SO,Fu,h.1,h.2⟩)) k4 k5)
def left(n:Nat)(listed:Array Bool):Nat:=(List.range n).countP fun i=> !listed.getD i ycH
def akD{n:Nat}{listed:Array Bool}{i:Nat}(hi:i<n)(hs:listed.size=n)(hl:listed.getD i ycG=ycH):left n (listed.setIfInBounds i ycG)+1=left n listed:=by
 have key:∀(l:List Nat),l.Nodup->(i∈l->(l.countP fun j=> !(listed.setIfInBounds i ycG).getD j ycH)+1=l.countP fun j=> !listed.getD j ycH)/\(i∉l->(l.countP fun j=> !(listed.setIfInBounds i ycG).getD j ycH)=l.countP fun j=> !listed.getD j ycH):=by
  intro l
  induction l with
  | nil=>intro _;exact⟨fun h=>(by cases h),fun _=>rfl⟩
  | cons x l ih=>
   intro kS;have hx:x≠i->(listed.setIfInBounds i ycG).getD x ycH=listed.getD x ycH:=fun h=>getD_set_ne ycH (ycn h)
   refine⟨fun hm=>?_,fun hm=>?_⟩
   .rw [ybe,ybe];by_cases e:x=i
    .simp_all
    .grind
   .grind
 exact (key _ List.nodup_range).1 (ybt.2 hi)
def aiL{n:Nat}{listed:Array Bool}(h:left n listed=0):∀i,i<n->listed.getD i ycH=ycG:=by
 unfold left at h
 simp_all
def aiM{listed:Array Bool}(hs:listed.size=ops.size)(hb:∀(i:Nat) (o:yP),ops[i]? =D5 o->∀e,e∈o.after->Region.binds .any e=ycG->e.on<i)(h:Region.ready .any ops listed=[]):∀i,i<ops.size->listed.getD i ycH=ycG:=by
 intro i
 induction i using vB with
 | _ i ih=>
  intro hi
  cases hq:listed.getD i ycH with
  | true=>rfl
  | false=>
   have:i∈Region.ready .any ops listed:=by
    refine mem_ready.2 ⟨?_,ops[i],by simp[hi],fun e he rm=>?_⟩
    .have aB:i<listed.size:=by lia
     simp only[xZ,aB,ux,wG] at hq ⊢;exact hq
    .have:=hb i ops[i] (by simp[hi]) e he rm
     exact ih e.on this (by lia)
   rw[h] at this;cases this
def amE(hG:sf O H self ops π rs bK bw bt vF)(hI:Inv O ops rs bK bw bt D m0 S0 w0 n0 d0 st c m S w a)(kN:∀i,i<rs.length->D i):
  aP O m S w (bw rs.length) (bt rs.length)/\bN O m S w (bK rs.length) a.tmps/\bR m0 S0 w0 (bw 0) m S w (bw rs.length) (bt 0)/\bt 0<=bt rs.length:=by
 have hc:c=rs.length:=by
  rcases hI.cut with h | ⟨⟨r,h1,_⟩,h2⟩
  .exact h
  .exact (h2 (kN c (xC.1 h1).1)).elim
 subst hc;refine⟨hI.hp,fun t=>?_,hI.OA,hI.ge⟩;obtain⟨j,h1,h2,h3⟩:=hI.tm t;obtain⟨k,hk⟩:∃k,rs.length=j+k:=⟨rs.length-j,by omega⟩
 have:=Hg (t:=t) (i:=j) hG.run k (by omega) (fun l r g1 g2 hl hd=>by
  have:=(h2 l r hl hd).1 (kN l (xC.1 hl).1)
  omega)
 rw[<-hk] at this;rw[this];exact h3
structure HM(n:Nat)(π:Nat->Nat):Prop where
 inj:∀i j,π i=π j->i=j
 sur:∀x,x<n->∃i,i<n/\π i=x
 lt:∀i,i<n->π i<n
def apa(hC:nO O self)(hH:eF O H)(hG:sf O H self ops π rs bK bw bt vF)(hπ:HM ops.size π)(hn:H.n<=n0)(hQ:∀a' m' S' w',aP O m' S' w' (bw rs.length) (bt rs.length)->bt 0<=bt rs.length->bN O m' S' w' (bK rs.length) a'.tmps->bR m0 S0 w0 (bw 0) m' S' w' (bw rs.length) (bt 0)->a'.tmps.size=n0->a'.defers=d0->Q .normal a' w'):
  ∀(bh:Nat) (listed:Array Bool) (st c:Nat) (m:Mp) (S:Nat->Prop) (w:yi) (a:Act),listed.size=ops.size->left ops.size listed=bh->RB ops (fun i=>listed.getD i ycH=ycG)->
   Inv O ops rs bK bw bt (fun i=>listed.getD (π i) ycH=ycG) m0 S0 w0 n0 d0 st c m S w a->wpAnyIn (WF ro) 0 O.P .any ops Q bh listed a w:=by
 have fin:∀(listed:Array Bool) (st c:Nat) (m:Mp) (S:Nat->Prop) (w:yi) (a:Act),Inv O ops rs bK bw bt (fun i=>listed.getD (π i) ycH=ycG) m0 S0 w0 n0 d0 st c m S w a->(∀i,i<ops.size->listed.getD i ycH=ycG)->Q .normal a w:=by
  intro listed st c m S w a hI kN;obtain⟨h1,h2,h3,h4⟩:=amE hG hI (fun i hi=>kN _ (hπ.lt i (by rw[<-hG.len];exact hi)))
  exact hQ a m S w h1 h4 h2 h3 hI.size hI.defers
 intro bh
 induction bh with
 | zero=>
  intro listed st c m S w a hs hl hc hI;have kN:=aiL hl;refine⟨?_,fin listed st c m S w a hI kN⟩;rw[List.eq_nil_iff_forall_not_mem];intro i hm;obtain⟨h1,o,ho,_⟩:=mem_ready.1 hm;have hi:=(xo.1 ho).1
  have:=kN i hi
  have aB:i<listed.size:=by omega
  simp only[xZ,aB,ux,wG] at h1 this;rw[this] at h1;cases h1
 | succ bh ih=>
  intro listed st c m S w a hs hl hc hI;refine⟨fun h=>fin listed st c m S w a hI (aiM hs hG.back h),fun x hm=>?_⟩;obtain⟨h1,o,ho,h2⟩:=mem_ready.1 hm;have hx:x<ops.size:=(xo.1 ho).1;obtain⟨i,hi,rfl⟩:=hπ.sur x hx;have hr:rs[i]? =D5 (rs[i]'(by rw[hG.len];exact hi)):=by simp[hG.len,hi]
  have aB:π i<listed.size:=by omega
  have hni:¬listed.getD (π i) ycH=ycG:=by
   simp only[xZ,aB,ux,wG] at h1 ⊢;rw[h1];simp
  have UE:∀y,(listed.setIfInBounds (π i) ycG).getD y ycH=ycG↔listed.getD y ycH=ycG\/y=π i:=by
   intro y;by_cases e:y=π i
   .subst e;simp[aB]
   .rw [getD_set_ne ycH (ycn e)];simp[e]
  have hD:∀j,(listed.setIfInBounds (π i) ycG).getD (π j) ycH=ycG↔listed.getD (π j) ycH=ycG\/j=i:=by
   intro j;rw[UE];exact or_congr Iff.rfl ⟨fun e=>hπ.inj _ _ e,fun e=>by rw[e]⟩
  refine akC (D:=fun i=>listed.getD (π i) ycH=ycG) hC hH hG hn hI hr ho hni (fun j hj=>XV hc (π i) o ho h2 (π j) hj) (fun j hj DO=>?_) hD (fun st' c' m' S' w' a' hI'=>ih (listed.setIfInBounds (π i) ycG) st' c' m' S' w' a' (by simp[hs]) ?_ ?_ hI')
  .have hjl:π j<ops.size:=by
    rcases wQ (π j) ops.size with h | h
    .exact h
    .rw [xZ,yap (by omega)] at DO;simp at DO
   exact hni (akA hc (show ops[π j]? =D5 ops[π j] by simp[hjl]) DO hj)
  .have:=akD hx hs h1
   omega
  .intro j oj J7 hj e he hb;rw[UE];rcases (UE j).1 hj with g | g
   .exact .inl (hc j oj J7 g e he hb)
   .subst g;rw[ho] at J7;injection J7 with J7
    subst J7;exact .inl (h2 e he hb)
end
end
section
open Go
section
variable {pm:List Nat}{n:Nat}{P:xi}{s s':St}
def ahO{F:Fence}{Q:vX->Act->yi->Prop}{a:Act}{w:yi}{c:wS}(h:c.wpIn F n P Q a w)(hg:∀l a w,¬Q (.goto l) a w):(Code.scope c).wpIn F n P Q a w:=by
 intro b k cs cB hb hr;have h0:(lone (b.atR a (.code (.scope c)::k)) cs w).fenced P F:=fenced_calm hb hr rfl;have s0:step P (lone (b.atR a (.code (.scope c)::k)) cs w)=.next (lone (b.atR a (.code c:: .inScope c::k)) cs w):=step_lone_go (by simp[stepG,stepG.exec,Frame.atR]);have⟨e,a₁,w₁,hq,Di⟩:=h b (.inScope c::k) cs cB hb hr;have hx:∀id,exitTo id (.inScope c::k)=exitTo id k:=fun id=>by simp[exitTo]
 cases e with
 | normal=>
  have s1:step P (lone (b.atR a₁ (.inScope c::k)) cs w₁)=.next (lone (b.atR a₁ k) cs w₁):=step_lone_go (by simp[stepG,stepG.exec,Frame.atR]);exact⟨.normal,a₁,w₁,hq,.head h0 s0 (StepsIn.trans Di (.one (fenced_calm hb hr rfl) s1))⟩
 | exit id=>
  exact⟨.exit id,a₁,w₁,hq,fun k' hk=>.head h0 s0 (Di.1 k' (by rw[hx];exact hk)),fun bq hk=>let ⟨k₁,h1,h2⟩:=Di.2 bq (by rw[hx];exact hk);⟨k₁,h1,.head h0 s0 h2⟩⟩
 | goto l=>exact (hg _ _ _ hq).elim
 | ret=>exact⟨_,a₁,w₁,hq,.of_steps (.one h0 s0) Di⟩
 | panic ch=>exact⟨_,a₁,w₁,hq,.of_steps (.one h0 s0) Di⟩
 | outgrown=>exact⟨_,a₁,w₁,hq,.of_steps (.one h0 s0) Di⟩
def qR:Ex->vX
 | .normal=>.normal
 | .ret=>.ret
 | .exit id=>.exit id
def Marks(lo:Nat)(S:Nat->Prop)(w:yi)(ds:List tW):Prop:=∃rs:List Nat,ds=rs.map (fun r=>{target:=.collected r,args:=#[]})/\rs.Nodup/\
 ∀r,r∈rs->w.heap[r]? =D5 (.deferred (D5 []))/\¬S r/\lo<=r
def zJ(ro:Option Nat)(w:yi):Prop:=∀l,ro=D5 l->∃r:uE,w.heap[l]? =D5 (.loop r)
section
variable {O:bk}{m:Mp}{S:Nat->Prop}{w:yi}{hp:Hp}{ct:Nat}
def YH(hh:aP O m S w hp ct){b:Nat}(h:dI m hp b):∀x,w.heap[b]?≠D5 (.deferred x):=by
 intro x hx;obtain⟨id,o,p,h1,h2,rfl⟩:=h;have h3:=hh.obj id o p h1 h2
 cases o with
 | cells rw pu ex sz cs=>have⟨q,arr,t,g1,g2,_⟩:=h3;rw[h2] at g1;injection g1 with g1;subst g1;rw[hx] at g2;cases g2
 | mp rw ks vs=>have⟨q,es,clock,g1,g2,_⟩:=h3;rw[h2] at g1;injection g1 with g1;subst g1;rw[hx] at g2;cases g2
 | si s pos=>have⟨q,t,g1,g2,_⟩:=h3;rw[h2] at g1;injection g1 with g1;subst g1;rw[hx] at g2;cases g2
 | lp tm ps as_ body st pe=>have⟨q,l,hi,g1,g2,_⟩:=h3;rw[h2] at g1;injection g1 with g1;subst g1;rw[hx] at g2;cases g2
def AX(hh:aP O m S w hp ct){m':Mp}{S':Nat->Prop}{w':yi}{an:Hp}{base lo:Nat}(hf:bR m S w hp m' S' w' an base){ds:List tW}(h:Marks lo S w ds):Marks lo S' w' ds:=by
 have⟨rs,h1,h2,h3⟩:=h;refine⟨rs,h1,h2,fun r hr=>?_⟩;have⟨this,h4,h5⟩:=h3 r hr;have aB:=(xo.1 this).1;have oD:¬dI m hp r:=fun ho=>YH hh ho _ this
 refine⟨(hf.same r aB oD).trans this,fun hs=>?_,h5⟩;rcases hf.new r hs with h | h | h
 .grind
 .grind
 .lia
def Li{m':Mp}{S':Nat->Prop}{w':yi}{an:Hp}{base:Nat}{ro:Option Nat}(hf:bR m S w hp m' S' w' an base)(h:zJ ro w):zJ ro w':=fun l hl=>
 let ⟨r,hr⟩:=h l hl
 hf.loops l r hr
def eh(O:bk)(m:Mp)(S:Nat->Prop)(w:yi)(s:St)(ex:Ex)(s':St)(n lo:Nat)(e:vX)(a':Act)(w':yi):Prop:=
 e=qR ex/\∃m' S',bN O m' S' w' s'.tm a'.tmps/\aP O m' S' w' s'.hp s'.ct/\s'.base=s.base/\s.base<=s'.ct/\bR m S w s.hp m' S' w' s'.hp s.base/\a'.tmps.size=n/\Marks lo S' w' a'.defers
def Bu(O:bk)(h:Nat)(c:wS)(s:St)(ex:Ex)(s':St):Prop:=
 ∀(ro:Option Nat) (lo:Nat) (m:Mp) (S:Nat->Prop) (w:yi) (a:Act),zJ ro w->bN O m S w s.tm a.tmps->aP O m S w s.hp s.ct->s.base<=s.ct->(O.hint h).n<=a.tmps.size->O.w0.heap.size<=lo->lo<=w.heap.size->Marks lo S w a.defers->
  c.wpIn (WF ro) 0 O.P (eh O m S w s ex s' a.tmps.size lo) a w
structure gC(O:bk):Prop where
 hint:∀h,eF O (O.hint h)
 mixed:O.P.follows .mixedOrders=ycG
 prog:∀n F,O.prog n=D5 F->∃fn,O.P.funcs[O.ab n]? =D5 fn/\Ew O.P (O.hint n) fn=D5 F/\fn.name≠ "runtime.NumGoroutine"
 aG:∀n sp ap r,O.aG.pure n=D5 sp->sp ap=D5 r->dL O n ap r
 E0:∀n sp hp ct ap v an aK,O.aG.heap n=D5 sp->sp hp ct ap=D5 (v,an,aK)->Bt O n hp ct ap v an aK
def Ei{P:xi}{H:Hint}{ops:Array yP}:∀(rs:List aO) (l:List yP) (done:List aO) (ms:List Nat),dS P H ops rs l->dS P H ops (kh done rs ms) l
 | [],l,done,ms,h=>by
  cases ms<;>simpa only[kh] using h
 | r::rs,[],done,ms,h=>by simp[dS] at h
 | r::rs,o::l,done,[],h=>by
  have⟨d,g,op⟩:=r;cases op<;>simpa only[kh] using h
 | r::rs,o::l,done,m::ms,h=>by
  simp only[dS] at h;have⟨h1,h2⟩:=h;have⟨d,g,op⟩:=r
  cases op with
  | iS B3 f xs=>
   simp only[kh,dS];refine⟨?_,Ei rs l _ ms h2⟩;rcases h1 with h1 | ⟨_,h1⟩
   .refine .inl ⟨?_,h1.dst,h1.ok,h1.guard⟩;have⟨c,f',g1,g2,g3,g4⟩:=Qr h1.op;rw[g3,g4];exact .inr (.inl ⟨c,f',_,g1,g2,rfl⟩)
   .simp [bad] at h1
  | st sz x y=>
   simp only[kh,dS];refine⟨?_,Ei rs l _ ms h2⟩;rcases h1 with h1 | ⟨_,h1⟩
   .refine .inl ⟨?_,h1.dst,h1.ok,h1.guard⟩;unfold stOp
    split
    .exact h1.op
    .have ⟨t,x',y',g1,g2,g3,g4⟩:=as3 h1.op;exact .inr (.inr (.inl ⟨t,x',y',sz,_,g1,g2,by rw[g3,g4]⟩))
   .simp [bad] at h1
  | df sz b x y=>
   simp only[kh,dS];refine⟨?_,Ei rs l _ ms h2⟩;rcases h1 with h1 | ⟨_,h1⟩
   .refine .inl ⟨?_,h1.dst,h1.ok,h1.guard⟩;unfold acA
    split
    .exact h1.op
    .have ⟨k,hk⟩:=aaG h1.op;exact .inr (.inr (.inr (.inl ⟨k,_,sz,b,x,y,hk,rfl⟩)))
   .simp [bad] at h1
  | _=>
   simp only[kh,dS];exact⟨h1,Ei rs l _ ms h2⟩
def YI{P:xi}{H:Hint}{ops:Array yP}:∀(rs:List aO) (l:List yP) (done:List aO),dS P H ops rs l->dS P H ops (ES done rs) l
 | [],[],_,h=>h
 | [],_::_,_,h=>by simp[dS] at h
 | r::rs,[],done,h=>by simp[dS] at h
 | r::rs,o::l,done,h=>by
  simp only[dS] at h;obtain⟨h1,h2⟩:=h;simp only[ES,dS];refine⟨?_,YI rs l _ h2⟩;obtain⟨d,g,op⟩:=r
  cases op with
  | df sz b x y=>
   simp only
   cases aaC done x with
   | false=>exact h1
   | true=>
    simp only[yr];rcases h1 with h1 | ⟨_,h1⟩
    .refine .inl ⟨?_,h1.dst,h1.ok,h1.guard⟩;obtain⟨k,hk⟩:=aaG h1.op;exact .inr (.inr (.inr (.inr (.inl ⟨k,sz,b,x,y,hk,rfl⟩))))
    .simp [bad] at h1
  | _=>exact h1
end
section
variable {O:bk}{self:bZ}
def Ly{P:xi}{H:Hint}{ops:Array yP}:∀{rs:List aO} {l:List yP},dS P H ops rs l->rs.length=l.length/\∀(i:Nat) (r:aO) (o:yP),rs[i]? =D5 r->l[i]? =D5 o->Da P H ops r o\/(r.guard=D6/\r.op=bad)
 | [],[],_=>⟨rfl,fun i r o h=>by simp at h⟩
 | [],_::_,h=>by simp[dS] at h
 | _::_,[],h=>by simp[dS] at h
 | r::rs,o::l,h=>by
  have⟨h1,h2⟩:=Ly h.2;refine⟨by simp[h1],fun i r' o' hr ho=>?_⟩
  cases i with
  | zero=>simp at hr ho;subst hr;subst ho;exact h.1
  | succ i=>exact h2 i r' o' (by simpa using hr) (by simpa using ho)
def amF{H:Hint}{o:yP}{sz:Nat}{z:List AV}{ps:List (Nat×Nat×X)}(hq:nh P H (.iY n sz z ps) o):∃k,Op.iY n sz z ps=aM P H k o:=by
 rcases hq with h | ⟨_,_,_,_,_,h3⟩ | ⟨_,_,_,_,_,_,_,h3⟩ | ⟨_,_,_,_,_,_,_,h3⟩ | ⟨_,_,_,_,_,_,h3⟩ | ⟨_,_,_,_,_,_,h3⟩
 .exact h
 .cases h3
 .cases h3
 .cases h3
 .cases h3
 .cases h3
def YJ{P:xi}{H:Hint}{ops:Array yP}{all:List aO}:∀(rs:List aO) (l:List yP),dS P H ops rs l->dS P H ops (C3 all rs) l
 | [],[],h=>h
 | [],_::_,h=>by simp[dS] at h
 | r::rs,[],h=>by simp[dS] at h
 | r::rs,o::l,h=>by
  simp only[dS] at h;obtain⟨h1,h2⟩:=h;simp only[C3,dS];refine⟨?_,YJ rs l h2⟩;obtain⟨d,g,op⟩:=r
  cases op with
  | iY n sz z ps=>
   simp only
   cases Mg d all with
   | false=>exact h1
   | true=>
    simp only[yr];rcases h1 with h1 | ⟨_,h1⟩
    .refine .inl ⟨?_,h1.dst,h1.ok,h1.guard⟩;obtain⟨k,hk⟩:=amF h1.op;exact .inr (.inr (.inr (.inr (.inr ⟨k,n,sz,z,ps,hk,rfl⟩))))
    .simp [bad] at h1
  | _=>exact h1
def Bv(l:List yP):List Nat->List yP
 | []=>[]
 | x::r=>match l[x]? with | some o=>o::Bv l r | none=>Bv l r
def Q0{P:xi}{H:Hint}{ops:Array yP}{rs:List aO}{l:List yP}(h:dS P H ops rs l):∀(pm:List Nat),dS P H ops (Br rs pm) (Bv l pm)
 | []=>trivial
 | x::r=>by
  obtain⟨h1,h2⟩:=Ly h;simp only[Br,Bv]
  cases hr:rs[x]? with
  | none=>
   have:l[x]? =D6:=by rw[List.getElem?_eq_none_iff] at hr ⊢;omega
   rw[this];exact Q0 h r
  | some q=>
   have aB:=(xC.1 hr).1;have hl:l[x]? =D5 (l[x]'(by omega)):=by rw[xh]
   rw[hl];exact⟨h2 x q _ hr hl,Q0 h r⟩
def XX{l:List yP}:∀(pm:List Nat),(∀x,x∈pm->x<l.length)->(Bv l pm).length=pm.length/\∀(i:Nat),(Bv l pm)[i]? =(pm[i]?).bind (l[·]?)
 | [],_=>⟨rfl,fun i=>by simp[Bv]⟩
 | x::r,h=>by
  have hx:=h x wm;obtain⟨h1,h2⟩:=XX r (fun y hy=>h y (xG _ hy));have hl:l[x]? =D5 l[x]:=by rw[xh]
  simp only[Bv,hl];refine⟨by simp[h1],fun i=>?_⟩
  cases i with
  | zero=>simp[hl]
  | succ i=>simpa using h2 i
def WB{m:Nat}:∀(pm:List Nat) (k i:Nat),ve (Eu m pm k) i=ycG->k<=i/\∃x,pm[i-k]? =D5 x/\ve m x=ycG
 | [],k,i,h=>by simp[Eu] at h
 | x::r,k,i,h=>by
  simp only[Eu,yby,ub] at h;rcases h with h | h
  .cases hx:ve m x with
   | false=>simp[hx] at h
   | true=>
    simp only[hx,yr,Nat.testBit_two_pow,vh] at h;subst h;exact⟨yq _,x,by simp,hx⟩
  .obtain ⟨h1,y,h2,h3⟩:=WB r (k+1) i h;refine⟨by omega,y,?_,h3⟩;rw[show i-k=(i-(k+1))+1 by omega,yaq];exact h2
def WC{ms pm all:List Nat}:∀(l:List Nat) (j:Nat),(A8 ms pm all l)[j]? =(l[j]?).map fun x=>Eu (ms.getD x 0) pm 0
 | [],j=>by simp[A8]
 | x::r,0=>by simp[A8]
 | x::r,j+1=>by simpa[A8] using WC r j
def ag9(h:HI n pm (sd pm n)=ycG):pm.length=n/\(∀x,x∈pm->x<n)/\HM n (fun i=>pm.getD i i):=by
 simp only[HI,ye] at h;obtain⟨h1,h2⟩:=h;have hl:=yf h1;have Ay:(sd pm n).length=n:=by simp[sd]
 have h3:∀i,i<n->pm.getD i i<n/\(sd pm n).getD i i<n/\(sd pm n).getD (pm.getD i i) i=i/\pm.getD ((sd pm n).getD i i) i=i:=fun i hi=>by
  have:=ybd.1 h2 i (ybt.2 hi)
  simp only[ye] at this;obtain⟨a,b,c,d⟩:=this;exact⟨oY.1 a,oY.1 b,yf c,yf d⟩
 have out:∀i,n<=i->pm.getD i i=i:=fun i hi=>by rw[yY,List.getElem?_eq_none (by omega)];rfl
 generalize sd pm n=inv at h3 Ay;have acJ:∀(l:List Nat) (i a b:Nat),i<l.length->l.getD i a=l.getD i b:=fun l i a b hi=>by
  rw[yY,yY,xh hi];rfl
 refine⟨hl,fun x hx=>?_,⟨fun i j oF=>?_,fun x hx=>?_,fun i hi=>(h3 i hi).1⟩⟩
 .obtain ⟨i,hi,rfl⟩:=List.getElem_of_mem hx
  have:=(h3 i (by omega)).1
  rwa[yY,xh hi] at this
 .have oF:pm.getD i i=pm.getD j j:=oF;by_cases hi:i<n
  .by_cases hj:j<n
   .have a:=(h3 i hi).2.2.1;have b:=(h3 j hj).2.2.1;rw[oF] at a;rw[acJ inv _ i j (by rw[Ay];exact (h3 j hj).1)] at a
    exact a.symm.trans b
   .rw [out j (by omega)] at oF
    have:=(h3 i hi).1
    omega
  .by_cases hj:j<n
   .rw [out i (by omega)] at oF
    have:=(h3 j hj).1
    omega
   .rw [out i (by omega),out j (by omega)] at oF;exact oF
 .obtain ⟨_,b,_,d⟩:=h3 x hx;exact⟨_,b,by show pm.getD _ _=x;rw[acJ pm _ _ x (by omega)];exact d⟩
def WD{H:Hint}{ops:Array yP}{rs:List aO}{Pp:aE}{L:Lib}{DK:bZ}(ei:(mJ ops.toList 0&&oV [] rs (jo [] ops.toList))=ycG)(Nb:dS P H ops rs ops.toList)(hv:cJ Pp L DK rs s=D5 s'):
  ∃rs π,HM ops.size π/\mJ ops.toList 0=ycG/\(rs.length=ops.size/\∀(i:Nat) (r:aO) (o:yP),rs[i]? =D5 r->ops[π i]? =D5 o->Da P H ops r o\/(r.guard=D6/\r.op=bad))/\
    (∀(i j:Nat) (x y:aO),i<j->rs[i]? =D5 x->rs[j]? =D5 y->Ord ops (π i) (π j)\/Dk x y ((rs.take j).drop (i+1)))/\cJ Pp L DK rs s=D5 s':=by
 simp only[ye] at ei;obtain⟨hlen,ai⟩:=Ly Nb;refine⟨rs,fun i=>i,⟨fun _ _ h=>h,fun x h=>⟨x,h,rfl⟩,fun _ h=>h⟩,ei.1,⟨by rw[hlen];simp,fun i r o hr ho=>ai i r o hr (by simpa using ho)⟩,fun i j x y oF hx hy=>?_,hv⟩
 obtain⟨mm,g1,g2⟩:=Pk (done:=[]) (i:=i) (j:=j) (a:=x) (b:=y) ei.2 (by simpa using hx) hy (by simpa using oF);refine g2.imp (fun g=>?_) (fun g=>by simpa using g);unfold Ord;rw[yY,g1];exact g
def agS{H:Hint}{ops:Array yP}{l:List aO}{q8:List Nat}{Pp:aE}{L:Lib}{DK:bZ}(DP:dS P H ops l ops.toList)(UF:A8 (jo [] ops.toList) pm pm pm=q8)(q1:mJ ops.toList 0=ycG)(q2:HI ops.size pm (sd pm ops.size)=ycG)(q3:oV [] (kh [] (Br (C3 l l) pm) q8) q8=ycG)(hv:cJ Pp L DK (kh [] (Br (C3 l l) pm) q8) s=D5 s'):
  ∃rs π,HM ops.size π/\mJ ops.toList 0=ycG/\(rs.length=ops.size/\∀(i:Nat) (r:aO) (o:yP),rs[i]? =D5 r->ops[π i]? =D5 o->Da P H ops r o\/(r.guard=D6/\r.op=bad))/\
    (∀(i j:Nat) (x y:aO),i<j->rs[i]? =D5 x->rs[j]? =D5 y->Ord ops (π i) (π j)\/Dk x y ((rs.take j).drop (i+1)))/\cJ Pp L DK rs s=D5 s':=by
 obtain⟨hl,aB,hπ⟩:=ag9 q2;have h1:=Ei _ _ [] q8 (Q0 (YJ (all:=l) _ _ DP) pm);obtain⟨h2,h3⟩:=Ly h1;obtain⟨h4,h5⟩:=XX (l:=ops.toList) pm (fun x hx=>by simpa using aB x hx);refine⟨_,_,hπ,q1,⟨by rw[h2,h4,hl],fun i r o hr ho=>h3 i r o hr ?_⟩,fun i j x y oF hx hy=>?_,hv⟩
 .have hi:i<pm.length:=by have:=(xC.1 hr).1;omega
  rw[h5,xh hi,wu];rw[yY,xh hi,wG] at ho;simpa using ho
 .have hj:j<pm.length:=by have:=(xC.1 hy).1;omega
  obtain⟨mm,g1,g2⟩:=Pk (done:=[]) (i:=i) (j:=j) (a:=x) (b:=y) q3 (by simpa using hx) hy (by simpa using oF);refine g2.imp (fun g=>?_) (fun g=>by simpa using g);rw[<-UF,WC,xh hj,wB,yb] at g1;subst g1;obtain⟨_,z,g3,g4⟩:=WB _ _ _ g;unfold Ord
  rw[yY (l:=pm),xh hj,wG]
  rw[yY (l:=pm),show pm[i]? =D5 z by simpa using g3,wG];exact g4
def aiN{m:Mp}{S:Nat->Prop}{w:yi}{hp:Hp}{ct:Nat}(hh:aP O m S w hp ct):Calm w {w with drawn:=w.drawn+1}:=⟨rfl,rfl,rfl,yq _,fun _ _=>rfl⟩
def apb(hO:gC O)(hC:nO O self)(h:Nat)(id:Nat)(ops:Array yP)(draw:Bool)(k:Nat)(hv:cJ O.prog O.aG self (LJ O.P (O.hint h) ops draw k).1 s=D5 s'):Bu O h (.region id ops draw) s .normal s':=by
 intro ro lo m S w a cB ht hh hb hn aZ eN cd;unfold LJ at hv;have DP:=W8 (P:=O.P) (H:=O.hint h) (ops:=ops) ops.toList k;generalize hq:CG O.P (O.hint h) ops ops.toList k=q at hv DP;obtain⟨l,k'⟩:=q;simp only at hv DP;have post:∀{a':Act} {m':Mp} {S':Nat->Prop} {w':yi},aP O m' S' w' s'.hp s'.ct->s.ct<=s'.ct->bN O m' S' w' s'.tm a'.tmps->bR m S w s.hp m' S' w' s'.hp s.ct->a'.tmps.size=a.tmps.size->a'.defers=a.defers->s'.base=s.base->eh O m S w s .normal s' a.tmps.size lo .normal a' w':=by
  intro a' m' S' w' h1 h2 h3 h4 h5 h6 h7;exact⟨rfl,m',S',h3,h1,h7,by omega,h4.so hb,h5,by rw[h6];exact AX hh h4 cd⟩
 cases draw with
 | false=>
  simp only[yJ] at hv;refine wpIn_region ?_;rw[List.range_eq_range'];have hl:ops.size=ops.toList.length:=by simp
  rw[hl];exact ZS hC (hO.hint h) ops.toList l 0 s s' a m S w (fun j=>by simp) DP hv ht hh hn (fun a' m' S' w' h1 h2 h3 h4 h5 h6 h7=>post h1 h2 h3 h4 h5 h6 h7)
 | true=>
  simp only[yr] at hv;have UG:∃rs π,HM ops.size π/\mJ ops.toList 0=ycG/\(rs.length=ops.size/\∀(i:Nat) (r:aO) (o:yP),rs[i]? =D5 r->ops[π i]? =D5 o->Da O.P (O.hint h) ops r o\/(r.guard=D6/\r.op=bad))/\
    (∀(i j:Nat) (x y:aO),i<j->rs[i]? =D5 x->rs[j]? =D5 y->Ord ops (π i) (π j)\/Dk x y ((rs.take j).drop (i+1)))/\cJ O.prog O.aG self rs s=D5 s':=by
   have Nb:=Ei l ops.toList [] (jo [] ops.toList) DP
   cases ei:(mJ ops.toList 0&&oV [] (kh [] l (jo [] ops.toList)) (jo [] ops.toList)) with
   | true=>
    rw[ei] at hv;exact WD ei Nb hv
   | false=>
    rw[ei] at hv;simp only[yJ] at hv
    cases SP:(mJ ops.toList 0&&oV [] (ES [] (kh [] l (jo [] ops.toList))) (jo [] ops.toList)) with
    | true=>
     rw[SP] at hv;exact WD SP (YI _ _ _ Nb) hv
    | false=>
     rw[SP] at hv;simp only[yJ] at hv;generalize hpm:places l (jo [] ops.toList)=pm at hv;generalize UF:A8 (jo [] ops.toList) pm pm pm=q8 at hv
     cases Nc:(mJ ops.toList 0&&(HI ops.size pm (sd pm ops.size)&&oV [] (kh [] (Br (C3 l l) pm) q8) q8)) with
     | false=>
      rw[Nc] at hv;simp[cJ,bad,aW,eb,aw] at hv
     | true=>
      rw[Nc] at hv;simp only[yr] at hv;simp only[ye] at Nc;obtain⟨q1,q2,q3⟩:=Nc;exact agS DP UF q1 q2 q3 hv
  clear hv;obtain⟨rs,π,hπ,as4,⟨hlen,ai⟩,as5,hv⟩:=UG
  .obtain ⟨bK,bw,bt,vF,hR,e1,e2,e3,e4,e5,e6,e7⟩:=ZT hv;have hG:sf O (O.hint h) self ops π rs bK bw bt vF:=by
    refine⟨hR,hlen,fun i r o hr ho=>?_,as5,fun i o ho e he hbd=>?_⟩
    .rcases ai i r o hr ho with g | ⟨g1,g2⟩
     .exact g
     .have:=hR.step i r hr
      simp[eD,g1,pE,g2,bad,aW,eb,aw] at this
    .have:=Wm as4 (j:=i) (o:=o) (by simpa using ho) e he hbd
     omega
   refine wpIn_region_any hO.mixed ?_;have IB:=aiN hh;have gS:=AW hh IB (S':=S) (fun _ h=>h) (fun _ h=>.inl h) hh.slt
   have Fz:bR m S w s.hp m S {w with drawn:=w.drawn+1} s.hp (bt 0):=zy hh IB (fun _ h=>h) (fun _ h=>.inl h);obtain⟨c,c1,c2,c3,c4⟩:=RC rs rs.length 0 (by omega);have hg:∀k',k'<=c->iv (bw 0) (bt 0) (bw (0+k')) (bt (0+k')):=fun k' nn=>
    Lg hR (by rw[e2,e3];exact hh.aB) k' (by omega) (fun j r g1 g2 hr=>HA hr (c3 j g1 (by omega)))
   have p9:=hg c (yq _);rw[yd] at p9;obtain⟨S1,g1,g2,g3,g4⟩:=Lu (by rw[e2,e3];exact gS:aP O m S {w with drawn:=w.drawn+1} (bw 0) (bt 0)) p9
   have se:∀i,(vY ops.size ycH).getD i ycH=ycG->False:=fun i hi=>by
    simp only[xZ] at hi;by_cases aB:i<ops.size
    .simp [aB] at hi
    .rw [yap (by simpa using aB)] at hi;simp at hi
   refine apa (m0:=m) (S0:=S) (w0:=w) (n0:=a.tmps.size) (d0:=a.defers) hC (hO.hint h) hG hπ hn (fun a' m' S' w' h1 h2 h3 h4 h5 h6=>?_) ops.size _ 0 c m S1 _ a (by simp) ?_ (fun j o _ hj=>(se j hj).elim) ?_
   .rw [e5,e6] at h1;rw[e3,e6] at h2;rw[e4] at h3;rw[e2,e3,e5] at h4;exact post h1 h2 h3 h4 h5 h6 e7
   .unfold left;rw[List.countP_eq_length.2]
    .simp
    .intro i hi;simp only[vD]
     cases hq:(vY ops.size ycH).getD i ycH with
     | false=>rfl
     | true=>exact (se i hq).elim
   .refine ⟨uV _,c2,fun i hi=>by omega,c3,c4.imp (fun h=>h) (fun h=>⟨h,fun hd=>se _ hd⟩),fun i r _ _ _ hd=>se _ hd,g1,fun id p hp=>.inl (by rw[e3];exact hh.lt id p hp),fun t=>⟨0,uV _,fun i r _ _=>⟨fun hd=>(se _ hd).elim,fun h=>by omega⟩,?_⟩,?_,p9.qc,rfl,rfl,.inl rfl,fun j hj=>?_⟩
    .rw [e1];exact kZ (fun _ _ h=>h) (fun b hb=>g2 b hb) (fun b hb=>IB.same b (hh.slt b hb)) _ _ (ht t)
    .rw [e2];have g5:=g4 (bt 0);rw[e2] at g5;exact Fz.trans g5
    .have:=(hg j hj).lt
     rw[yd] at this;exact this
end
end
end
section
open Go
section
variable {ps:List Nat}{b l:Nat}{P:xi}
section
variable {O:bk}{m:Mp}{S:Nat->Prop}{w:yi}{hp:Hp}{ct:Nat}
def Xb(hh:aP O m S w hp ct){g:Nat}{w':yi}(hw:One w w' g)(hg:¬S g)(ho:¬dI m hp g)(aZ:O.w0.heap.size<=g):aP O m S w' hp ct:=by
 have aQ:fg S w w':=fun b hb=>hw.other b (fun e=>hg (e▸hb))
 refine⟨fun id o p h1 h2=>?_,hh.lt,hh.inj,fun b hb=>by rw[hw.size];exact hh.slt b hb,fun id p h=>by rw[hw.size];exact hh.blt id p h,hh.low,fun b hb=>?_,by rw[hw.size];exact hh.fk,hh.aB⟩
 .exact rM (fun _ _ h=>h) (fun _ h=>h) aQ (fun q hq=>hw.other _ (fun e=>ho ⟨id,o,q,h1,hq,e⟩)) (fun _ _ h=>h) (hh.obj id o p h1 h2)
 .rw [hw.other b (by lia)];exact hh.lB b hb
def Xc{o:tV}(h:w.heap[b]? =D5 o)(hc:∀c t f,o≠.cells c t f):(getObj b).run P w=.ok o w:=by
 simp only[getObj,Sem.run,h]
def K0{o x:tV}(h:w.heap[b]? =D5 o)(hc:∀c t f,o≠.cells c t f):(setObj b x).run P w=.ok () {w with heap:=w.heap.setIfInBounds b x}:=by
 simp only[setObj,Sem.run,h]
def G4{r:uE}(h:w.heap[b]? =D5 (.loop r)):(Instr.getLoop b).run P w=.ok r w:=by
 simp only[Instr.getLoop,Sem.run_bind,Xc (P:=P) h (fun _ _ _=>by simp),Result.andThen_ok,Sem.run_pure]
def HB(hh:aP O m S w hp ct){tm:Env}{as_ body:VC}{st:Nat}{pe:sn}{p:Pl}(hg:ai hp l=D5 (.lp tm ps as_ body st pe))(hm:m l=D5 p):
  ∃(r:uE) (h:Nat),w.heap[p.b]? =D5 (.loop r)/\¬S p.b/\r.state=BC st/\st<=2/\r.pending=zI pe/\bN O m S w tm r.tmps/\r.params.toList=ps/\BV O.P (O.hint h) as_ r.assign/\BV O.P (O.hint h) body r.body/\
   (O.hint h).n<=r.tmps.size/\zS (O.hint h).n ps=ycG:=by
 have⟨q,r,h,g1,g2,g3⟩:=hh.obj l _ p hg hm
 grind
def XY(hh:aP O m S w hp ct){tm:Env}{as_ body:VC}{st:Nat}{pe:sn}{p:Pl}(hg:ai hp l=D5 (.lp tm ps as_ body st pe))(hm:m l=D5 p){r:uE}(hr:w.heap[p.b]? =D5 (.loop r)){st':Nat}{pe':sn}(h2:st'<=2):
  aP O m S {w with heap:=w.heap.setIfInBounds p.b (.loop {r with state:=BC st',pending:=zI pe'})} (aV hp l (.lp tm ps as_ body st' pe')) ct/\
  bR m S w hp m S {w with heap:=w.heap.setIfInBounds p.b (.loop {r with state:=BC st',pending:=zI pe'})} (aV hp l (.lp tm ps as_ body st' pe')) ct:=by
 have⟨r',h,g1,g2,g3,g4,g5,g6,g7,g8,g9,g10,g11⟩:=HB hh hg hm;rw[hr] at g1;injection g1 with g1
 injection g1 with g1
 subst g1;have fE:=D8 w p.b (.loop {r with state:=BC st',pending:=zI pe'})
 refine Hm hh hg hm g2 fE ⟨p,{r with state:=BC st',pending:=zI pe'},h,hm,KW hr,g2,rfl,h2,rfl,?_,g7,g8,g9,g10,g11⟩ (fun _ _=>⟨_,KW hr⟩);exact AU (fun _ _ h=>h) (fun _ h=>h) (fun b hb=>fE.other b (fun e=>g2 (e▸hb))) g6
def XZ{n:Nat}:∀{ps:List Nat} {vs:List AV} {us:List yg} {tm tm':Env} {tmps:Array yg},qK tm ps vs=D5 tm'->ax O.ab m S w vs us->bN O m S w tm tmps->n<=tmps.size->zS n ps=ycG->
  ps.length=us.length/\bN O m S w tm' ((ps.zip us).foldl (fun t (x:Nat×yg)=>t.setIfInBounds x.1 x.2) tmps)/\((ps.zip us).foldl (fun t (x:Nat×yg)=>t.setIfInBounds x.1 x.2) tmps).size=tmps.size
 | [],[],us,tm,tm',tmps,h,hr,ht,hn,ha=>by
  simp only[qK,yb] at h;simp only[ax] at hr
  simp_all
 | [],_::_,us,tm,tm',tmps,h,hr,ht,hn,ha=>by simp[qK] at h
 | _::_,[],us,tm,tm',tmps,h,hr,ht,hn,ha=>by simp[qK] at h
 | p::ps,v::vs,us,tm,tm',tmps,h,hr,ht,hn,ha=>by
  simp only[qK] at h;obtain⟨u,t,rfl,h1,h2⟩:=hr;simp only[zS,ye] at ha;have hp:=oY.1 ha.1;have ht1:bN O m S w ((p,v)::tm) (tmps.setIfInBounds p u):=Qu (a:=⟨tmps,[]⟩) (d:=D5 p) ht (fun i hi=>by injection hi with hi;show i<tmps.size;lia) h1
  have⟨g1,g2,g3⟩:=XZ (n:=n) h h2 ht1 (by simpa using hn) ha.2
  simp_all
def akE(ps:Array Tmp)(args:Array yg)(tmps:Array yg):(ps.zip args).foldl (fun tmps (x:Tmp×yg)=>tmps.setIfInBounds x.1 x.2) tmps=(ps.toList.zip args.toList).foldl (fun t (x:Nat×yg)=>t.setIfInBounds x.1 x.2) tmps:=by
 rw[<-Array.foldl_toList,Array.toList_zip]
def agT{r:uE}(h:w.heap[b]? =D5 (.loop r))(jump:Option wS):
  (Instr.endRound b jump).run P w=.ok (.bool jump.isNone) {w with heap:=w.heap.setIfInBounds b (.loop {r with state:=if jump.isNone then .ready else .done,pending:=jump})}:=by
 simp only[Instr.endRound,Sem.run_bind,G4 h,Result.andThen_ok,K0 (P:=P) h (fun _ _ _=>by simp),Sem.run_pure]
def agG{r:uE}(h:w.heap[b]? =D5 (.loop r))(hs:r.state=.ready):
  (Instr.beginRound b).run P w=.ok () {w with heap:=w.heap.setIfInBounds b (.loop {r with state:=.busy})}:=by
 simp only[Instr.beginRound,Sem.run_bind,G4 h,Result.andThen_ok,K0 (P:=P) h (fun _ _ _=>by simp),hs,Sem.run_pure]
def akF{self:bZ}(hS:∀v s ex s',self v s=D5 (ex,s')->∀c h l k,(comp O.P (O.hint h) c l k).1=v->Bu O h c s ex s'){xs:List AV}{v:AV}{an:Hp}{aK:Nat}(hv:iP self hp ct l xs=D5 (v,an,aK)):aaD O hp ct l xs v an aK:=by
 intro m S w args p hh hm dQ;unfold iP at hv
 split at hv
 case h_2=>cases hv
 rename_i tm ps as_ body pe hg;have⟨r,h,g1,g2,g3,g4,g5,g6,g7,⟨ca,ka,g8⟩,⟨cb,kb,g9⟩,g10,g11⟩:=HB hh hg hm
 cases hb:qK tm ps xs with
 | none=>simp[hb] at hv
 | some tm'=>
  simp only[hb] at hv;have⟨b1,b2,b3⟩:=XZ hb dQ g6 g10 g11;rw[<-g7] at b1 b2 b3;have dR:args.size=r.params.size:=by
   grind
  let tmps:Array yg:=(r.params.zip args).foldl (fun tmps (x:Tmp×yg)=>tmps.setIfInBounds x.1 x.2) r.tmps
  have acK:tmps=(r.params.toList.zip args.toList).foldl (fun t (x:Nat×yg)=>t.setIfInBounds x.1 x.2) r.tmps:=akE _ _ _;refine⟨r.fn,tmps,r.assign,r.body,?_,?_⟩
  .simp only [Instr.yield,Sem.run_bind,G4 g1,Result.andThen_ok,dR,ne_eq,ycC,xq,Sem.run_pure];rfl
  refine roundIn_of_wpIn (F:=Fence.wide) trivial ?_
  cases h1:self as_ ⟨tm',hp,ct,ct⟩ with
  | none=>simp[h1] at hv
  | some q=>
   have⟨ex1,s1⟩:=q
   cases ex1 with
   | ret=>simp[h1] at hv
   | exit id=>simp[h1] at hv
   | normal=>
    simp only[h1] at hv;have dW:=hS _ _ _ _ h1 r.assign h ca ka g8;have cB:∀w',bR m S w hp m S w' hp ct->zJ (D5 p.b) w':=fun w' hf=>Li hf (fun l hl=>⟨r,by injection hl with hl;subst hl;exact g1⟩)
    refine wpIn_mono (dW (D5 p.b) w.heap.size m S w ⟨tmps,[]⟩ (cB w bR.refl) (by rw[acK];exact b2) hh (yq _) (by show _<=tmps.size;rw[acK,b3];exact g10) hh.fk (yq _) ⟨[],rfl,by simp,by simp⟩) ?_
    rintro e a1 w1 ⟨rfl,m1,S1,k1,k2,k3,k4,k5,k6,k7⟩;simp only[qR,Exit.then];have B4:m1 l=D5 p:=k5.old l p (hh.lt l p hm) hm
    split at hv
    case h_2=>cases hv
    rename_i gO sR BU C4 p7 p9;have⟨r1,gS,f1,f2,f3,f4,f5,f6,f7,f8,f9,f10,f11⟩:=HB k2 p9 B4;have UH:=agG (P:=O.P) f1 f3;have⟨q1,q2⟩:=XY k2 p9 B4 f1 (st':=1) (pe':=p7) (by lia)
    have eJ:({r1 with state:=BC 1,pending:=zI p7}:uE)={r1 with state:=.busy}:=by rw[<-f5];rfl
    rw[eJ] at q1 q2;refine⟨_,UH,?_⟩
    cases h2:self body ⟨s1.tm,aV s1.hp l (.lp gO sR BU C4 1 p7),s1.ct,s1.ct⟩ with
    | none=>simp[h2] at hv
    | some q=>
     have⟨ex,s2⟩:=q;simp only[h2] at hv;have rn:=hS _ _ _ _ h2 r.body h cb kb g9
     have auW:zJ (D5 p.b) {w1 with heap:=w1.heap.setIfInBounds p.b (.loop {r1 with state:=.busy})}:=fun l hl=>by
      grind
     have UI:bN O m1 S1 {w1 with heap:=w1.heap.setIfInBounds p.b (.loop {r1 with state:=.busy})} s1.tm a1.tmps:=
      AU (fun _ _ h=>h) (fun _ h=>h) (fun b hb=>q2.still b hb) k1
     have auX:(O.hint h).n<=a1.tmps.size:=by
      grind
     refine wpIn_mono (rn (D5 p.b) w.heap.size m1 S1 _ a1 auW UI q1 (yq _) auX hh.fk (y9 k5.size q2.size) (AX k2 q2 k7)) ?_;rintro e a2 w2 ⟨rfl,m2,S2,j1,j2,j3,j4,j5,j6,j7⟩;have UJ:m2 l=D5 p:=j5.old l p (k2.lt l p B4) B4
     split at hv
     case h_2=>cases hv
     rename_i om Ap JP Iy pe2 FF;have⟨r2,J8,d1,d2,d3,d4,d5,d6,d7,d8,d9,d10,d11⟩:=HB j2 FF UJ;have auY:bR m S w hp m2 S2 w2 s2.hp ct:=(k5.trans (q2.so k4)).trans (j5.so k4);have acL:ct<=s2.ct:=y9 k4 j4;have fin:∀(jump:Option wS) (st':Nat) (pe':sn),zI pe'=jump->BC st'=(if jump.isNone then .ready else .done)->st'<=2->
       ∃v' w',(Instr.endRound p.b jump).run O.P w2=.ok v' w'/\zx O m S w hp ct (.bool jump.isNone) (aV s2.hp l (.lp om Ap JP Iy st' pe')) s2.ct (.returned v') w':=by
      intro jump st' pe' e1 e2 e3;have⟨z1,z2⟩:=XY j2 FF UJ d1 (st':=st') (pe':=pe') e3;rw[e1,e2] at z1 z2;exact⟨_,_,agT d1 jump,_,m2,S2,rfl,z1,acL,by simp[ae],auY.trans (z2.so acL)⟩
     cases ex with
     | normal=>
      simp only[yb,yj] at hv;obtain⟨rfl,rfl,rfl⟩:=hv;simp only[qR,roundPost];exact fin D6 0 .none rfl rfl (by lia)
     | ret=>
      simp only[Rw,yb,yj] at hv;obtain⟨rfl,rfl,rfl⟩:=hv;simp only[qR,roundPost];exact fin (D5 .ret) 2 .ret rfl rfl (by lia)
     | exit id=>
      simp only[Rw,yb,yj] at hv;obtain⟨rfl,rfl,rfl⟩:=hv;simp only[qR,roundPost];exact fin (D5 (.exit id)) 2 (.exit id) rfl rfl (by lia)
end
end
end
section
open Go
section
variable {O:bk}{self:bZ}
def Ej{P:xi}{f:tC}{fn:yas}{args:Array yg}{w:yi}(hf:P.funcs[f]? =D5 fn)(hb:fn.body.isSome=ycG)(hn:fn.name≠ "runtime.NumGoroutine"):(callFunc f args).run P w=.ok (.enter f args) w:=by
 have h1:fn.body≠D6:=fun e=>by rw[e] at hb;cases hb
 simp[callFunc,program,Sem.run,hf,h1,hn]
def Pw{P:xi}{H:Hint}{fn:yas}{F:az}(h:Ew P H fn=D5 F):∃c,fn.body=D5 c/\F.body=(comp P H c 0 0).1/\oX P fn.results.toList=D5 F.eA/\H.n<=fn.ntmps:=by
 unfold Ew at h
 split at h
 .rename_i c rs h1 h2
  cases hb:yz H.n fn.ntmps with
  | false=>rw[hb] at h;cases h
  | true=>
   rw[hb] at h;simp only[yr,yb] at h;subst h
   simp_all
 .cases h
def akG{m:Mp}{S:Nat->Prop}{w:yi}{hp:Hp}{ct:Nat}{tm:Env}{a:Act}{ro:Option Nat}(fn:tC)(ps:Array Tmp)(assign body:wS){as_ b':VC}{h:Nat}(hh:aP O m S w hp ct)(ht:bN O m S w tm a.tmps)(cB:zJ ro w)(UK:BV O.P (O.hint h) as_ assign)(UL:BV O.P (O.hint h) b' body)(hn:(O.hint h).n<=a.tmps.size)(fa:zS (O.hint h).n ps.toList=ycG){lo:Nat}(eN:lo<=w.heap.size)(cd:Marks lo S w a.defers):
  ∃l mark w1,(Instr.enterLoop fn a.tmps ps assign body ro).run O.P w=.ok (l,mark) w1/\aP O (eR m ct ⟨l,0,0,0⟩) S w1 ((ct,.lp tm ps.toList as_ b' 0 .none)::hp) (ct+1)/\
   bR m S w hp (eR m ct ⟨l,0,0,0⟩) S w1 ((ct,.lp tm ps.toList as_ b' 0 .none)::hp) ct/\m ct=D6/\Marks lo S w1 (mark++a.defers)/\w.heap.size<=l:=by
 have bB:m ct=D6:=by
  cases hq:m ct with
  | none=>rfl
  | some p=>have:=hh.lt ct p hq;omega
 have lay:∀(w':yi) (d:Nat),Calm w w'->Marks lo S w' a.defers->
   aP O (eR m ct ⟨w'.heap.size,0,0,0⟩) S (w'.alloc (.loop {state:=.ready,pending:=D6,fn:=fn,tmps:=a.tmps,params:=ps,assign:=assign,body:=body,defers:=d})) ((ct,.lp tm ps.toList as_ b' 0 .none)::hp) (ct+1)/\
   bR m S w hp (eR m ct ⟨w'.heap.size,0,0,0⟩) S (w'.alloc (.loop {state:=.ready,pending:=D6,fn:=fn,tmps:=a.tmps,params:=ps,assign:=assign,body:=body,defers:=d})) ((ct,.lp tm ps.toList as_ b' 0 .none)::hp) ct:=by
  intro w' d hw acM;have gS:aP O m S w' hp ct:=AW hh hw (fun _ h=>h) (fun _ h=>.inl h) (fun b hb=>yE (hh.slt b hb) hw.size);have Fz:bR m S w hp m S w' hp ct:=zy hh hw (fun _ h=>h) (fun _ h=>.inl h);have hg:iv hp ct ((ct,.lp tm ps.toList as_ b' 0 .none)::hp) (ct+1):=by
   refine⟨fun id o ho=>⟨o,?_,iI.refl o⟩,by omega,fun id o ho=>?_,fun id o ho hi=>?_⟩
   .rw [eO,yx (by have:=hh.aB id o ho;omega)];exact ho
   .rw [eO] at ho;by_cases hc:ct=id
    .omega
    .simp only [hc,xq] at ho;have:=hh.aB id o ho;omega
   .rw [eO,yx (by omega)] at ho;exact⟨o,ho⟩
  have b9:∀i q,ai ((ct,Obj.lp tm ps.toList as_ b' 0 .none)::hp) i=D5 q->i≠ct->ai hp i=D5 q:=fun i q h hi=>by
   rw[eO,yx (fun e=>hi e.symm)] at h;exact h
  have J8:aP O m S w' ((ct,.lp tm ps.toList as_ b' 0 .none)::hp) (ct+1):=by
   have dV:∀id p,m id=D5 p->id≠ct:=fun id p hm e=>by have:=hh.lt id p hm;omega
   exact⟨fun id o p ho hm=>gS.obj id o p (b9 id o ho (dV id p hm)) hm,fun id p hm=>by have:=hh.lt id p hm;omega,
    fun i j oi oj pi pj hi hj bB fI e=>gS.inj i j oi oj pi pj (b9 i oi hi (dV i pi bB)) (b9 j oj hj (dV j pj fI)) bB fI e,gS.slt,gS.blt,gS.low,gS.lB,gS.fk,hg.lt⟩
  have oA:eH O (eR m ct ⟨w'.heap.size,0,0,0⟩) S (w'.alloc (.loop {state:=.ready,pending:=D6,fn:=fn,tmps:=a.tmps,params:=ps,assign:=assign,body:=body,defers:=d})) ct (.lp tm ps.toList as_ b' 0 .none):=by
   refine⟨⟨w'.heap.size,0,0,0⟩,_,h,c9,heap_alloc_new w' _,?_,rfl,by omega,rfl,?_,rfl,UK,UL,hn,fa⟩
   .intro hS
    have:=gS.slt _ hS
    simp at this
   .exact AU (iQ bB) (fun _ h=>h) (fun b hb=>(G7 gS _ b hb).trans (hw.same b (hh.slt b hb))) ht
  obtain⟨S',k1,k2,k3⟩:=Qo (i:=ct) (p:=⟨w'.heap.size,0,0,0⟩) J8 bB (by omega) rfl (fun o ho=>by
   rw[eO] at ho;simp only[xN,yb] at ho;subst ho
   exact .inl ⟨oA,by simp[ij]⟩)
  have k1':aP O (eR m ct ⟨w'.heap.size,0,0,0⟩) S (w'.alloc (.loop {state:=.ready,pending:=D6,fn:=fn,tmps:=a.tmps,params:=ps,assign:=assign,body:=body,defers:=d})) ((ct,.lp tm ps.toList as_ b' 0 .none)::hp) (ct+1):=by
   have JW:∀id q,m id=D5 q->q.b≠w'.heap.size:=fun id q hq=>by have:=gS.blt id q hq;lia
   refine⟨?_,k1.lt,k1.inj,fun b hb=>k1.slt b (k2 b hb),k1.blt,k1.low,k1.lB,k1.fk,k1.aB⟩;intro id o q ho hm;by_cases hc:id=ct
   .subst hc;rw[eO] at ho
    grind
   .rw [dK hc] at hm;exact rM (iQ bB) (fun _ h=>h) (G7 gS _) (fun q' bE=>alloc_old (gS.blt id q' bE)) (fun _ _ h=>h) (gS.obj id o q (b9 id o ho hc) hm)
  refine⟨k1',Fz.trans ⟨rfl,rfl,rfl,by simp,fun b hb _=>alloc_old hb,fun _ h=>h,fun b hb=>G7 gS _ b hb,fun b hb=>.inl hb,?_,fun i q _ hq=>iQ bB i q hq,fun b r hb=>⟨r,(alloc_old (xo.1 hb).1).trans hb⟩⟩⟩;rintro b ⟨i,o,q,g1,g2,g3⟩;by_cases hc:i=ct
  .subst hc;rw[c9] at g2
   grind
  .rw [dK hc] at g2;exact .inl ⟨i,o,q,b9 i o g1 hc,g2,g3⟩
 cases ro with
 | none=>
  have IB:Calm w (w.alloc (.deferred (D5 []))):=⟨rfl,rfl,rfl,by simp,fun b hb=>alloc_old hb⟩;have⟨rs,r1,r2,r3⟩:=cd;have auZ:Marks lo S (w.alloc (.deferred (D5 []))) a.defers:=⟨rs,r1,r2,fun r hr=>⟨(alloc_old (xo.1 (r3 r hr).1).1).trans (r3 r hr).1,(r3 r hr).2⟩⟩;have⟨k1,k2⟩:=lay (w.alloc (.deferred (D5 []))) w.heap.size IB auZ
  refine⟨(w.alloc (.deferred (D5 []))).heap.size,[{target:=.collected w.heap.size,args:=#[]}],_,?_,k1,k2,bB,?_,by simp⟩
  .simp [Instr.enterLoop,newObj,Sem.run]
  .have hold:∀(b:Nat) (x:tV),(w.alloc (.deferred (D5 []))).heap[b]? =D5 x->((w.alloc (.deferred (D5 []))).alloc (.loop {state:=.ready,pending:=D6,fn:=fn,tmps:=a.tmps,params:=ps,assign:=assign,body:=body,defers:=w.heap.size})).heap[b]? =D5 x:=fun b x hb=>
    (alloc_old (xo.1 hb).1).trans hb
   refine⟨w.heap.size::rs,by rw[r1];rfl,?_,?_⟩
   .grind
   .intro r hr;rcases xn.1 hr with rfl | hr
    .exact ⟨hold _ _ (heap_alloc_new w _),fun hs=>by have:=hh.slt _ hs;lia,eN⟩
    .exact ⟨hold _ _ ((alloc_old (xo.1 (r3 r hr).1).1).trans (r3 r hr).1),(r3 r hr).2⟩
 | some l0=>
  have⟨r0,jS⟩:=cB l0 rfl;have⟨k1,k2⟩:=lay w r0.defers Calm.refl cd;refine⟨w.heap.size,[],_,?_,k1,k2,bB,?_,yq _⟩
  .simp [Instr.enterLoop,G4 jS,newObj,Sem.run]
  .exact AX hh k2 cd
def as6(hO:gC O)(hC:nO O self){h:Nat}{f:xm}{ps:Array Tmp}{assign body:wS}{as_ b':VC}(UK:BV O.P (O.hint h) as_ assign)(UL:BV O.P (O.hint h) b' body)(fa:zS (O.hint h).n ps.toList=ycG){s:St}{ex:Ex}{s':St}(hv:br O.prog O.aG self (.rf (aI (O.hint h) f) ps.toList as_ b') s=D5 (ex,s')):Bu O h (.rangeFunc f ps assign body) s ex s':=by
 intro ro lo m S w a cB ht hh hb hn aZ eN cd;simp only[br] at hv
 split at hv
 case h_2=>cases hv
 rename_i n first cap hx
 split at hv
 case h_1=>cases hv
 rename_i hL
 cases he:ir O.prog O.aG self ((s.ct,.lp s.tm ps.toList as_ b' 0 .none)::s.hp) (s.ct+1) n (first++(.fn (.y s.ct) [] []::cap)) with
 | none=>simp[he] at hv
 | some q=>
  have⟨v,aX,oE⟩:=q;simp only[he] at hv
  split at hv
  case h_2=>cases hv
  rename_i om Ap JP Iy st pe FF
  cases aQ:yo st 1 with
  | true=>rw[aQ] at hv;cases hv
  | false=>
   rw[aQ] at hv;simp only[yJ] at hv;refine wpIn_rangeFunc (fun fn _=>?_);have⟨l,mark,w1,e1,e2,e3,e4,e5,e6⟩:=akG (ro:=ro) fn ps assign body hh ht cB UK UL hn fa eN cd;have rf:=bO (hO.hint h) ht f;rw[hx] at rf;simp only[ae] at rf;have⟨fi,ca,hf,r2,r3⟩:=rf;have hle:=iQ e4 (p:=⟨l,0,0,0⟩);have E1:fg S w w1:=fun b hb=>e3.still b hb
   have dQ:ax O.ab (eR m s.ct ⟨l,0,0,0⟩) S w1 (first++(.fn (.y s.ct) [] []::cap)) (fi++#[Value.func (.yield l) #[] #[]]++ca).toList:=by
    have:=kX (gA hle (fun _ h=>h) E1 _ _ r2) (kX (a:=[.fn (.y s.ct) [] []]) (x:=[Value.func (.yield l) #[] #[]]) (by
     simp only[ax]
     exact⟨_,[],rfl,by simp only[ae];exact⟨_,c9,rfl⟩,rfl⟩) (gA hle (fun _ h=>h) E1 _ _ r3))
    grind
   have R6:=hC.heap _ _ _ _ _ _ _ he _ S w1 _ e2 dQ;have hP:∃F,O.prog n=D5 F:=by
    unfold ir at he;rw[hL] at he
    cases hq:O.prog n with
    | none=>simp[hq] at he
    | some F=>exact⟨F,rfl⟩
   have⟨F,hF⟩:=hP;have⟨fn',q1,q2,q3⟩:=hO.prog n F hF;have⟨cb,q4,_⟩:=Pw q2;have eS:(callFunc (O.ab n) (fi++#[Value.func (.yield l) #[] #[]]++ca)).run O.P w1=.ok (.enter (O.ab n) (fi++#[Value.func (.yield l) #[] #[]]++ca)) w1:=Ej q1 (by rw[q4];rfl) q3
   refine⟨l,mark,w1,{target:=.fn (.func (O.ab n)) ca,args:=fi++#[Value.func (.yield l) #[] #[]]},w1,O.ab n,fi++#[Value.func (.yield l) #[] #[]]++ca,w1,e1,?_,fun _ _=>trivial,?_,fun hd=>by simp[WF,Fence.wide] at hd,?_⟩
   .show Sem.run O.P (Deferred.ofValue (a.eval f) _) w1=_
    rw[hf];simp[Deferred.ofValue,Act.eval]
   .simp only [invoke];exact eS
   .rcases R6 with ⟨_,R6⟩ | ⟨u,w',h1,_⟩
    case inr=>rw[eS] at h1;cases h1
    have apc:CallsIn (WF ro) 0 O.P (O.ab n) (fi++#[Value.func (.yield l) #[] #[]]++ca) w1 (zx O (eR m s.ct ⟨l,0,0,0⟩) S w1 ((s.ct,.lp s.tm ps.toList as_ b' 0 .none)::s.hp) (s.ct+1) v aX oE):=R6;refine CallsIn.mono apc ?_;rintro e w3 ⟨u,m',S',rfl,k1,k2,k3,k4⟩;have gP:m' s.ct=D5 ⟨l,0,0,0⟩:=k4.old s.ct _ (tQ _) c9;have⟨r,J8,d1,d2,d3,d4,d5,d6,_⟩:=HB k1 FF gP;have zd:(r.state==LoopState.busy)=ycH:=by
     rw[d3];rcases st with _ | _ | st
     .rfl
     .simp_all
     .have:st=0:=by lia
      subst this;rfl
    have fE:=D8 w3 l (.loop {r with state:=.exhausted});have UM:=YD k1 s.ct;have oD:¬dI m' (cl aX s.ct) l:=Ww k1 FF gP
    have z1:aP O m' S' {w3 with heap:=w3.heap.setIfInBounds l (.loop {r with state:=.exhausted})} (VE.cl aX s.ct) oE:=Xb UM fE d2 oD (by have:=hh.fk;lia)
    have z2:bR m' S' w3 aX m' S' {w3 with heap:=w3.heap.setIfInBounds l (.loop {r with state:=.exhausted})} (VE.cl aX s.ct) s.base:=by
     refine⟨rfl,rfl,rfl,by rw[fE.size];exact yq _,fun b _ hb=>fE.other b (fun e=>hb (e▸HK FF gP)),fun _ h=>h,fun b hb=>fE.other b (fun e=>d2 (e▸hb)),fun b hb=>.inl hb,fun b hb=>.inl (ZQ hb),fun _ _ _ h=>h,fun b x hb=>?_⟩
     grind
    have SQ:bR m S w s.hp m' S' {w3 with heap:=w3.heap.setIfInBounds l (.loop {r with state:=.exhausted})} (VE.cl aX s.ct) s.base:=
     ((e3.so hb).trans (k4.so (by lia))).trans z2
    have Nf:(Instr.endLoop l).run O.P w3=.ok (zI pe) {w3 with heap:=w3.heap.setIfInBounds l (.loop {r with state:=.exhausted})}:=by
     simp only[Instr.endLoop,Sem.run_bind,G4 d1,Result.andThen_ok,zd,yA,xq,Sem.run_pure,K0 (P:=O.P) d1 (fun _ _ _=>by simp),d5]
    have acM:Marks lo S' {w3 with heap:=w3.heap.setIfInBounds l (.loop {r with state:=.exhausted})} (mark++a.defers):=AX k1 z2 (AX e2 k4 e5)
    have AA:bN O m' S' {w3 with heap:=w3.heap.setIfInBounds l (.loop {r with state:=.exhausted})} s.tm a.tmps:=by
     refine AU (fun id p hp=>?_) SQ.sub (fun b hb=>SQ.still b hb) ht;have h1:=hh.lt id p hp;exact k4.old id p (by lia) (hle id p hp)
    have post:∀UN,s'={s with hp:=VE.cl aX s.ct,ct:=oE}->ex=UN->eh O m S w s ex s' a.tmps.size lo (qR UN) {a with defers:=mark++a.defers} {w3 with heap:=w3.heap.setIfInBounds l (.loop {r with state:=.exhausted})}:=by
     rintro UN rfl rfl;exact⟨rfl,m',S',AA,z1,rfl,by show s.base<=oE;lia,SQ,rfl,acM⟩
    refine⟨_,_,Nf,?_⟩
    cases pe with
    | none=>
     simp only[yb,yj] at hv;exact post .normal hv.2.symm hv.1.symm
    | ret=>
     simp only[yb,yj] at hv;exact wpIn_ret (post .ret hv.2.symm hv.1.symm)
    | exit id=>
     simp only[yb,yj] at hv;exact wpIn_exit (post (.exit id) hv.2.symm hv.1.symm)
end
end
def Le(f g:bZ):Prop:=∀c s r,f c s=D5 r->g c s=D5 r
section
variable {P:aE}{L:Lib}{f g:bZ}
def Pj(h:Le f g)(n:Nat)(ap:List AV)(r:AV)(hr:bQ P L f n ap=D5 r):bQ P L g n ap=D5 r:=by
 unfold bQ at hr ⊢
 cases hL:L.pure n with
 | some sp=>simpa only[hL] using hr
 | none=>
  simp only[hL] at hr ⊢
  cases hP:P n with
  | none=>simp[hP] at hr
  | some F=>
   simp only[hP] at hr ⊢
   cases hf:f F.body ⟨eL 0 ap,[],0,0⟩ with
   | none=>simp[hf] at hr
   | some q=>rw[h _ _ _ hf];simpa only[hf] using hr
def Px(h:Le f g)(hp:Hp)(ct:Nat)(n:Nat)(ap:List AV)(r:AV×Hp×Nat)(hr:ir P L f hp ct n ap=D5 r):ir P L g hp ct n ap=D5 r:=by
 unfold ir at hr ⊢
 cases hL:L.heap n with
 | some sp=>simpa only[hL] using hr
 | none=>
  simp only[hL] at hr ⊢
  cases hP:P n with
  | none=>simp[hP] at hr
  | some F=>
   simp only[hP] at hr ⊢
   cases hf:f F.body ⟨eL 0 ap,hp,ct,ct⟩ with
   | none=>simp[hf] at hr
   | some q=>rw[h _ _ _ hf];simpa only[hf] using hr
def Wr(h:Le f g)(hp:Hp)(ct:Nat)(l:Nat)(xs:List AV)(r:AV×Hp×Nat)(hr:iP f hp ct l xs=D5 r):iP g hp ct l xs=D5 r:=by
 unfold iP at hr ⊢
 cases hl:ai hp l with
 | none=>simp[hl] at hr
 | some o=>
  simp only[hl] at hr ⊢
  split at hr
  .rename_i tm ps as_ body pe ru
   cases hb:qK tm ps xs with
   | none=>simp[hb] at hr
   | some tm'=>
    simp only[hb] at hr ⊢
    cases h1:f as_ ⟨tm',hp,ct,ct⟩ with
    | none=>simp[h1] at hr
    | some q=>
     rw[h _ _ _ h1];simp only[h1] at hr ⊢
     split at hr
     .rename_i s1 au0
      split at hr
      .rename_i gO sR BU C4 p7 au1
       cases h2:f body ⟨s1.tm,aV s1.hp l (.lp gO sR BU C4 1 p7),s1.ct,s1.ct⟩ with
       | none=>simp[h2] at hr
       | some q2=>rw[h _ _ _ h2];simpa only[h2] using hr
      .simp at hr
     .simp at hr
  .simp at hr
def WE(h:Le f g)(hp:Hp)(ct:Nat)(m:Md)(fv:AV)(xs:List AV)(r:AV×Hp×Nat)(hr:eb P L f hp ct m fv xs=D5 r):eb P L g hp ct m fv xs=D5 r:=by
 unfold eb at hr ⊢
 split at hr
 .rename_i n first cap
  cases m with
  | pure=>
   cases hz:cf deep hp (first++(xs++cap)) with
   | none=>simp[hz] at hr
   | some q=>
    simp only[hz] at hr ⊢
    cases hc:bQ P L f n q.1 with
    | none=>simp[hc] at hr
    | some u=>rw[Pj h n q.1 u hc];simpa only[hc] using hr
  | own=>
   cases hz:cf deep hp (first++(xs++cap)) with
   | none=>simp[hz] at hr
   | some q=>
    simp only[hz] at hr ⊢
    cases hc:bQ P L f n q.1 with
    | none=>simp[hc] at hr
    | some u=>rw[Pj h n q.1 u hc];simpa only[hc] using hr
  | heap=>exact Px h _ _ _ _ _ hr
  | dyn=>
   cases hz:aD (first++(xs++cap)) with
   | true=>
    simp only[hz,yr] at hr ⊢
    cases hc:bQ P L f n (first++(xs++cap)) with
    | none=>simp[hc] at hr
    | some u=>rw[Pj h n _ u hc];simpa only[hc] using hr
   | false=>
    simp only[hz,yJ] at hr ⊢;exact Px h _ _ _ _ _ hr
 .split at hr
  .exact Wr h _ _ _ _ _ hr
  .exact Wr h _ _ _ _ _ hr
  .simp at hr
 .simp at hr
def X0(h:Le f g)(tm:Env)(hp:Hp)(ct:Nat)(o:Op)(r:AV×Hp×Nat)(hr:aW P L f tm hp ct o=D5 r):aW P L g tm hp ct o=D5 r:=by
 unfold aW at hr ⊢
 split at hr
 .exact WE h _ _ _ _ _ _ hr
 .rename_i rs fv xs
  cases hc:eb P L f hp ct .dyn (aw tm fv) (db tm xs) with
  | none=>simp[hc] at hr
  | some q=>rw[WE h _ _ _ _ _ _ hc];simpa only[hc] using hr
 all_goals simpa only using hr
def K1(h:Le f g):∀(ops:List aO) (s s':St),cJ P L f ops s=D5 s'->cJ P L g ops s=D5 s'
 | [],s,s',hr=>by simpa only[cJ] using hr
 | ⟨d,gd,o⟩::r,s,s',hr=>by
  simp only[cJ] at hr ⊢
  split at hr
  .rename_i hw
   cases ho:aW P L f s.tm s.hp s.ct o with
   | none=>simp[ho] at hr
   | some q=>rw[X0 h _ _ _ _ _ ho];simp only[ho] at hr ⊢;exact K1 h r _ _ hr
  .rename_i hw
   (try simp only[hw]);exact K1 h r _ _ hr
  .simp at hr
def qC(h:Le f g):∀(c:VC) (s:St) (r:Ex×St),br P L f c s=D5 r->br P L g c s=D5 r
 | .skip,s,r,hr=>by simpa only[br] using hr
 | .nm ops,s,r,hr=>by
  simp only[br] at hr ⊢
  cases ho:cJ P L f ops s with
  | none=>simp[ho] at hr
  | some s'=>rw[K1 h _ _ _ ho];simpa only[ho] using hr
 | .seq a b,s,r,hr=>by
  simp only[br] at hr ⊢
  cases ha:br P L f a s with
  | none=>simp[ha] at hr
  | some q=>
   rw[qC h a s q ha];obtain⟨ex,s1⟩:=q
   cases ex with
   | normal=>simp only[ha] at hr ⊢;exact qC h b s1 r hr
   | ret=>simpa only[ha] using hr
   | exit id=>simpa only[ha] using hr
 | .cond x a b,s,r,hr=>by
  simp only[br] at hr ⊢
  split at hr
  .rename_i t ht
   cases t with
   | true=>simp only[yr] at hr ⊢;exact qC h a s r hr
   | false=>simp only[yJ] at hr ⊢;exact qC h b s r hr
  .simp at hr
 | .dz id a,s,r,hr=>by
  simp only[br] at hr ⊢
  cases ha:br P L f a s with
  | none=>simp[ha] at hr
  | some q=>rw[qC h a s q ha];simpa only[ha] using hr
 | .kp live,s,r,hr=>by simpa only[br] using hr
 | .fz ts,s,r,hr=>by simpa only[br] using hr
 | .loop live a,s,r,hr=>by
  simp only[br] at hr ⊢
  cases ha:br P L f a (bg live s) with
  | none=>simp[ha] at hr
  | some q=>
   rw[qC h a _ q ha];obtain⟨ex,s1⟩:=q
   cases ex with
   | normal=>simp only[ha] at hr ⊢;exact h _ _ _ hr
   | ret=>simpa only[ha] using hr
   | exit id=>simpa only[ha] using hr
 | .rf fv ps as_ body,s,r,hr=>by
  simp only[br] at hr ⊢
  split at hr
  .rename_i n first cap hx
   split at hr
   .grind
   .rename_i hL
    cases hc:ir P L f ((s.ct,.lp s.tm ps as_ body 0 .none)::s.hp) (s.ct+1) n (first++(.fn (.y s.ct) [] []::cap)) with
    | none=>simp[hc] at hr
    | some q=>rw[Px h _ _ _ _ _ hc];simpa only[hc] using hr
  .simp at hr
 | .exit id,s,r,hr=>by simpa only[br] using hr
 | .ret,s,r,hr=>by simpa only[br] using hr
end
def HC(P:aE)(L:Lib)(c:VC)(s:St):ev P L 0 c s=D6:=rfl
def LR(P:aE)(L:Lib)(n:Nat):ev P L (n+1)=br P L (ev P L n):=rfl
def abi(P:aE)(L:Lib):∀n,Le (ev P L n) (ev P L (n+1))
 | 0=>fun c s r h=>by rw[HC] at h;cases h
 | n+1=>fun c s r h=>by
  exact qC (abi P L n) c s r h
def Q1(P:aE)(L:Lib){n m:Nat}(h:n<=m):Le (ev P L n) (ev P L m):=by
 induction h with
 | refl=>exact fun _ _ _ h=>h
 | step _ ih=>exact fun c s r hr=>abi P L _ c s r (ih c s r hr)
section
open Go
section
variable {ex:Ex}{lo n:Nat}{s:St}{w w':yi}
section
variable {O:bk}{self:bZ}
def eh.none{m:Mp}{S:Nat->Prop}{s':St}{a:Act}(l:Nat):¬eh O m S w s ex s' n lo (.goto l) a w':=by
 rintro⟨h,_⟩;cases ex<;>cases h
def eh.then{m m1:Mp}{S S1:Nat->Prop}{w1:yi}{s1 s2:St}{a':Act}{e:vX}{ex1:Ex}(h1:s1.base=s.base)(hf:bR m S w s.hp m1 S1 w1 s1.hp s.base)(h:eh O m1 S1 w1 s1 ex s2 n lo e a' w'):eh O m S w s ex s2 n lo e a' w':=by
 have⟨h2,m',S',k1,k2,k3,k4,k5,k6,k7⟩:=h;rw[h1] at k3 k4 k5;exact⟨h2,m',S',k1,k2,k3,k4,hf.trans k5,k6,k7⟩
def eh.aY{m:Mp}{S:Nat->Prop}{s1:St}{a':Act}{e:vX}(live:List Nat)(h:eh O m S w s ex s1 n lo e a' w'):eh O m S w s ex (bg live s1) n lo e a' w':=by
 have⟨h2,m',S',k1,k2,k3,k4,k5,k6,k7⟩:=h;have⟨m2,g1,g2,g3,g4,g5⟩:=PF (live:=live) k1 k2 (by rw[k3];exact k4)
 rw[k3] at g3 g4 g5;exact⟨h2,m2,S',g1,g2,g3,g4,k5.trans g5,k6,AX k2 g5 k7⟩
def abj{m:Mp}{w:yi}{tmps:Array yg}:∀{ts:List Nat} {s s1:St} {S:Nat->Prop},bN O m S w s.tm tmps->aP O m S w s.hp s.ct->pD ts s=D5 s1->
  ∃S1,bN O m S1 w s1.tm tmps/\aP O m S1 w s1.hp s1.ct/\s1.base=s.base/\s1.ct=s.ct/\∀base,bR m S w s.hp m S1 w s1.hp base
 | [],s,s1,S,ht,hh,h=>by
  simp only[pD,yb] at h;subst h;exact⟨S,ht,hh,rfl,rfl,fun _=>bR.refl⟩
 | t::r,s,s1,S,ht,hh,h=>by
  simp only[pD] at h
  cases hz:freeze deep s.hp (aj s.tm t) with
  | none=>simp[hz] at h
  | some q=>
   have⟨v,hp⟩:=q;simp only[hz] at h;have⟨h1,h2,h3⟩:=PY (O:=O) hz;have hg:iv s.hp s.ct hp s.ct:=⟨h1,yq _,fun id o ho=>(by
     have:=h2 id
     rw[ho] at this
     cases hq:ai s.hp id with
     | none=>rw[hq] at this;simp at this
     | some o'=>exact hh.aB id o' hq),fun id o ho _=>(by
     have:=h2 id
     rw[ho] at this
     cases hq:ai s.hp id with
     | none=>rw[hq] at this;simp at this
     | some o'=>exact⟨o',rfl⟩)⟩
   have⟨S',k1,k2,k3,k4⟩:=Lu hh hg;have AA:bN O m S' w ((t,v)::s.tm) tmps:=by
    intro i;simp only[aj]
    cases hb:yo t i with
    | true=>
     have:=yf hb
     subst this;exact (h3 hp m S' w s.ct cz.refl k1).1 _ (kZ (fun _ _ h=>h) k2 (fun _ _=>rfl) _ _ (ht t))
    | false=>
     exact kZ (fun _ _ h=>h) k2 (fun _ _=>rfl) _ _ (ht i)
   have⟨S1,g1,g2,g3,g4,g5⟩:=abj (s:={s with tm:=(t,v)::s.tm,hp:=hp}) AA k1 h;exact⟨S1,g1,g2,g3,g4,fun base=>(k4 base).trans (g5 base)⟩
def ZW(hO:gC O)(n:Nat)(hC:∀k,k<=n->nO O (ev O.prog O.aG k))(h:Nat):∀(c:wS) (l k:Nat) (j:Nat),j<=n->∀(s:St) (ex:Ex) (s':St),
  br O.prog O.aG (ev O.prog O.aG j) (comp O.P (O.hint h) c l k).1 s=D5 (ex,s')->Bu O h c s ex s':=by
 have refl:∀{s:St} {ex:Ex} {m:Mp} {S:Nat->Prop} {w:yi} {a:Act} {lo:Nat},bN O m S w s.tm a.tmps->aP O m S w s.hp s.ct->s.base<=s.ct->Marks lo S w a.defers->eh O m S w s ex s a.tmps.size lo (qR ex) a w:=
  fun h1 h2 h3 h4=>⟨rfl,_,_,h1,h2,rfl,h3,bR.refl,rfl,h4⟩
 have SR:∀{self:bZ} {s:St} {r:Ex×St},br O.prog O.aG self (.nm [⟨D6,D6,bad⟩]) s=D5 r->False:=by
  intro self s r hv;simp[br,cJ,bad,aW,eb,aw] at hv
 intro c
 induction c with
 | skip=>
  intro l k j hj s ex s' hv ro lo m S w a cB ht hh hb hn aZ eN cd;simp only[comp,br,yb,yj] at hv;obtain⟨rfl,rfl⟩:=hv;exact wpIn_skip (refl ht hh hb cd)
 | label x=>
  intro l k j hj s ex s' hv ro lo m S w a cB ht hh hb hn aZ eN cd;simp only[comp,br,yb,yj] at hv;obtain⟨rfl,rfl⟩:=hv;exact wpIn_label (refl ht hh hb cd)
 | exit id=>
  intro l k j hj s ex s' hv ro lo m S w a cB ht hh hb hn aZ eN cd;simp only[comp,br,yb,yj] at hv;obtain⟨rfl,rfl⟩:=hv
  exact wpIn_exit (refl (ex:=.exit id) ht hh hb cd)
 | ret=>
  intro l k j hj s ex s' hv ro lo m S w a cB ht hh hb hn aZ eN cd;simp only[comp,br,yb,yj] at hv;obtain⟨rfl,rfl⟩:=hv
  exact wpIn_ret (refl (ex:=.ret) ht hh hb cd)
 | goto x=>intro l k j hj s ex s' hv;exact (SR (by simpa only[comp] using hv)).elim
 | refuse x=>intro l k j hj s ex s' hv;exact (SR (by simpa only[comp] using hv)).elim
 | region id ops d=>
  intro l k j hj s ex s' hv;simp only[comp] at hv;generalize hq:LJ O.P (O.hint h) ops d k=q at hv;have⟨r,k'⟩:=q;have main:∀{s s':St} {ex:Ex},br O.prog O.aG (ev O.prog O.aG j) (.nm r) s=D5 (ex,s')->Bu O h (.region id ops d) s ex s':=by
   intro s s' ex hv;simp only[br] at hv
   cases ho:cJ O.prog O.aG (ev O.prog O.aG j) r s with
   | none=>simp[ho] at hv
   | some s1=>
    simp only[ho,yb,yj] at hv;obtain⟨rfl,rfl⟩:=hv;exact apb hO (hC j hj) h id ops d k (by rw[hq];exact ho)
  simp only at hv
  split at hv
  .exact main hv
  .rename_i t ts _;simp only[br] at hv
   cases hf:pD (t::ts) s with
   | none=>simp[hf] at hv
   | some s1=>
    simp only[hf] at hv;intro ro lo m S w a cB ht hh hb hn aZ eN cd;have⟨S1,g1,g2,g3,g4,g5⟩:=abj ht hh hf;have h1:=main (s:=s1) (by simpa only[br] using hv) ro lo m S1 w a cB g1 g2 (by rw[g3,g4];exact hb) hn aZ eN (AX hh (g5 s.base) cd)
    refine wpIn_mono h1 (fun e a' w' hp=>?_)
    exact eh.then (ex1:=.normal) g3 (g5 s.base) hp
 | seq x y ihx ihy=>
  intro l k j hj s ex s' hv ro lo m S w a cB ht hh hb hn aZ eN cd;simp only[comp] at hv;generalize ze:comp O.P (O.hint h) x l k=qx at hv;have⟨x',l1,k1⟩:=qx;simp only at hv;generalize J9:comp O.P (O.hint h) y l1 k1=qy at hv;have⟨y',l2,k2⟩:=qy;simp only[br] at hv
  cases hx:br O.prog O.aG (ev O.prog O.aG j) x' s with
  | none=>simp[hx] at hv
  | some r=>
   have⟨ex1,s1⟩:=r;have h1:=ihx l k j hj s ex1 s1 (by rw[ze];exact hx) ro lo m S w a cB ht hh hb hn aZ eN cd
   refine wpIn_seq (wpIn_mono h1 ?_);rintro e a1 w1 ⟨rfl,m1,S1,g1,g2,g3,g4,g5,g6,g7⟩;have stop:ex1≠.normal->ex=ex1/\s'=s1:=by
    intro dV;rw[hx] at hv
    cases ex1 with
    | normal=>exact absurd rfl dV
    | ret=>simp only[yb,yj] at hv;exact⟨hv.1.symm,hv.2.symm⟩
    | exit id=>simp only[yb,yj] at hv;exact⟨hv.1.symm,hv.2.symm⟩
   cases ex1 with
   | normal=>
    simp only[hx] at hv;simp only[qR,Exit.then];have h2:=ihy l1 k1 j hj s1 ex s' (by rw[J9];exact hv) ro lo m1 S1 w1 a1 (Li g5 cB) g1 g2 (by rw[g3];exact g4) (by rw[g6];exact hn) aZ (y9 eN g5.size) g7
    rw[g6] at h2
    exact wpIn_mono h2 (fun e a' w' hp=>eh.then (ex1:=.normal) g3 g5 hp)
   | ret=>
    obtain⟨rfl,rfl⟩:=stop (by simp);exact⟨rfl,m1,S1,g1,g2,g3,g4,g5,g6,g7⟩
   | exit id=>
    obtain⟨rfl,rfl⟩:=stop (by simp);exact⟨rfl,m1,S1,g1,g2,g3,g4,g5,g6,g7⟩
 | cond x p q ihp ihq=>
  intro l k j hj s ex s' hv ro lo m S w a cB ht hh hb hn aZ eN cd;simp only[comp] at hv;generalize ze:comp O.P (O.hint h) p (l+1) k=qx at hv;have⟨p',l1,k1⟩:=qx;simp only at hv;generalize J9:comp O.P (O.hint h) q l1 k1=qy at hv;have⟨q',l2,k2⟩:=qy;simp only at hv;have main:∀(ex:Ex) (s':St),br O.prog O.aG (ev O.prog O.aG j) (.cond (aI (O.hint h) x) p' q') s=D5 (ex,s')->(Code.cond x p q).wpIn (WF ro) 0 O.P (eh O m S w s ex s' a.tmps.size lo) a w:=by
   intro ex s' hv;simp only[br] at hv;have rx:=bO (hO.hint h) ht x
   split at hv
   .rename_i t hx;rw[hx] at rx;simp only[ae] at rx
    cases t with
    | true=>
     simp only[yr] at hv;exact wpIn_cond_true rx (ihp (l+1) k j hj s ex s' (by rw[ze];exact hv) ro lo m S w a cB ht hh hb hn aZ eN cd)
    | false=>
     simp only[yJ] at hv;exact wpIn_cond_false rx (ihq l1 k1 j hj s ex s' (by rw[J9];exact hv) ro lo m S w a cB ht hh hb hn aZ eN cd)
   .cases hv
  cases acN:(O.hint h).out l with
  | none=>rw[acN] at hv;exact main ex s' hv
  | some live=>
   rw[acN] at hv;simp only at hv;rw[show br O.prog O.aG (ev O.prog O.aG j) (.seq (.cond (aI (O.hint h) x) p' q') (.kp live)) s=match br O.prog O.aG (ev O.prog O.aG j) (.cond (aI (O.hint h) x) p' q') s with | some (.normal,s1)=>D5 (.normal,bg live s1) | r=>r from rfl] at hv
   cases hx:br O.prog O.aG (ev O.prog O.aG j) (.cond (aI (O.hint h) x) p' q') s with
   | none=>simp[hx] at hv
   | some r=>
    have⟨ex1,s1⟩:=r;have h1:=main ex1 s1 hx;rw[hx] at hv
    cases ex1 with
    | normal=>
     simp only[yb,yj] at hv;obtain⟨rfl,rfl⟩:=hv;exact wpIn_mono h1 (fun e a' w' hp=>eh.aY live hp)
    | ret=>simp only[yb,yj] at hv;obtain⟨rfl,rfl⟩:=hv;exact h1
    | exit id=>simp only[yb,yj] at hv;obtain⟨rfl,rfl⟩:=hv;exact h1
 | block id x ih=>
  intro l k j hj s ex s' hv ro lo m S w a cB ht hh hb hn aZ eN cd;simp only[comp] at hv;generalize ze:comp O.P (O.hint h) x l k=qx at hv;have⟨x',r⟩:=qx;simp only at hv;have main:∀(ex:Ex) (s':St),br O.prog O.aG (ev O.prog O.aG j) (.dz id x') s=D5 (ex,s')->(Code.block id x).wpIn (WF ro) 0 O.P (eh O m S w s ex s' a.tmps.size lo) a w:=by
   intro ex s' hv;simp only[br] at hv
   cases hx:br O.prog O.aG (ev O.prog O.aG j) x' s with
   | none=>simp[hx] at hv
   | some q=>
    have⟨ex1,s1⟩:=q;have h1:=ih l k j hj s ex1 s1 (by rw[ze];exact hx) ro lo m S w a cB ht hh hb hn aZ eN cd
    refine wpIn_block (wpIn_mono h1 ?_);rintro e a1 w1 ⟨rfl,g⟩
    cases ex1 with
    | normal=>
     simp only[hx,yb,yj] at hv;obtain⟨rfl,rfl⟩:=hv;exact⟨rfl,g⟩
    | ret=>
     simp only[hx,yb,yj] at hv;obtain⟨rfl,rfl⟩:=hv;exact⟨rfl,g⟩
    | exit i=>
     simp only[hx] at hv
     cases OD:yo i id with
     | true=>
      rw[OD] at hv;simp only[yr,yb,yj] at hv;obtain⟨rfl,rfl⟩:=hv
      have:=yf OD
      subst this;simp only[qR,Exit.inBlock,xN];exact⟨rfl,g⟩
     | false=>
      rw[OD] at hv;simp only[yJ,yb,yj] at hv;obtain⟨rfl,rfl⟩:=hv;have dV:i≠id:=fun e=>by subst e;simp at OD
      simp only[qR,Exit.inBlock,dV,xq];exact⟨rfl,g⟩
  have as7:∀live:List Nat,br O.prog O.aG (ev O.prog O.aG j) (.seq (.dz id x') (.kp live)) s=D5 (ex,s')->(Code.block id x).wpIn (WF ro) 0 O.P (eh O m S w s ex s' a.tmps.size lo) a w:=by
   intro live hv;rw[show br O.prog O.aG (ev O.prog O.aG j) (.seq (.dz id x') (.kp live)) s=match br O.prog O.aG (ev O.prog O.aG j) (.dz id x') s with | some (.normal,s1)=>D5 (.normal,bg live s1) | r=>r from rfl] at hv
   cases hx:br O.prog O.aG (ev O.prog O.aG j) (.dz id x') s with
   | none=>simp[hx] at hv
   | some r=>
    have⟨ex1,s1⟩:=r;have h1:=main ex1 s1 hx;rw[hx] at hv
    cases ex1 with
    | normal=>
     simp only[yb,yj] at hv;obtain⟨rfl,rfl⟩:=hv;exact wpIn_mono h1 (fun e a' w' hp=>eh.aY live hp)
    | ret=>simp only[yb,yj] at hv;obtain⟨rfl,rfl⟩:=hv;exact h1
    | exit id=>simp only[yb,yj] at hv;obtain⟨rfl,rfl⟩:=hv;exact h1
  split at hv
  .exact as7 _ hv
  .exact main ex s' hv
 | loop x ih=>
  intro l k j hj s ex s' hv;simp only[comp] at hv;generalize ze:comp O.P (O.hint h) x (l+1) k=qx at hv;have⟨x',r⟩:=qx;simp only at hv;have rounds:∀(j:Nat),j<=n->∀(s:St) (ex:Ex) (s':St),br O.prog O.aG (ev O.prog O.aG j) (.loop ((O.hint h).live l) x') s=D5 (ex,s')->∃K,∀(ro:Option Nat) (lo:Nat) (m:Mp) (S:Nat->Prop) (w:yi) (a:Act),zJ ro w->bN O m S w s.tm a.tmps->aP O m S w s.hp s.ct->s.base<=s.ct->(O.hint h).n<=a.tmps.size->O.w0.heap.size<=lo->lo<=w.heap.size->Marks lo S w a.defers->
    Code.roundsIn (WF ro) 0 O.P x (eh O m S w s ex s' a.tmps.size lo) K a w:=by
   intro j
   induction j with
   | zero=>
    intro hj s ex s' hv;simp only[br] at hv
    cases hx:br O.prog O.aG (ev O.prog O.aG 0) x' (bg ((O.hint h).live l) s) with
    | none=>simp[hx] at hv
    | some q=>
     have⟨ex1,s1⟩:=q;have stop:ex1≠.normal->ex=ex1/\s'=s1:=by
      intro dV;rw[hx] at hv
      cases ex1 with
      | normal=>exact absurd rfl dV
      | ret=>simp only[yb,yj] at hv;exact⟨hv.1.symm,hv.2.symm⟩
      | exit id=>simp only[yb,yj] at hv;exact⟨hv.1.symm,hv.2.symm⟩
     refine⟨1,fun ro lo m S w a cB ht hh hb hn aZ eN cd=>?_⟩;rw[roundsIn_succ];have⟨m1,c1,c2,c3,c4,c5⟩:=PF (live:=(O.hint h).live l) ht hh hb;have h1:=ih (l+1) k 0 hj _ ex1 s1 (by rw[ze];exact hx) ro lo m1 S w a cB c1 c2 (by rw[c3];exact c4) hn aZ eN cd
     refine wpIn_mono h1 ?_;rintro e a1 w1 hp;have an:=eh.then (O:=O) (m:=m) (S:=S) (w:=w) (s:=s) (ex1:=.normal) c3 c5 hp;obtain⟨rfl,_⟩:=hp
     cases ex1 with
     | normal=>simp only[hx,HC] at hv;cases hv
     | ret=>obtain⟨rfl,rfl⟩:=stop (by simp);exact an
     | exit id=>obtain⟨rfl,rfl⟩:=stop (by simp);exact an
   | succ j ihj=>
    intro hj s ex s' hv;simp only[br] at hv
    cases hx:br O.prog O.aG (ev O.prog O.aG (j+1)) x' (bg ((O.hint h).live l) s) with
    | none=>simp[hx] at hv
    | some q=>
     have⟨ex1,s1⟩:=q;have stop:ex1≠.normal->ex=ex1/\s'=s1:=by
      intro dV;rw[hx] at hv
      cases ex1 with
      | normal=>exact absurd rfl dV
      | ret=>simp only[yb,yj] at hv;exact⟨hv.1.symm,hv.2.symm⟩
      | exit id=>simp only[yb,yj] at hv;exact⟨hv.1.symm,hv.2.symm⟩
     have more:∃K,ex1=.normal->∀(ro:Option Nat) (lo:Nat) (m:Mp) (S:Nat->Prop) (w:yi) (a:Act),zJ ro w->bN O m S w s1.tm a.tmps->aP O m S w s1.hp s1.ct->s1.base<=s1.ct->(O.hint h).n<=a.tmps.size->O.w0.heap.size<=lo->lo<=w.heap.size->Marks lo S w a.defers->
       Code.roundsIn (WF ro) 0 O.P x (eh O m S w s1 ex s' a.tmps.size lo) K a w:=by
      cases ex1 with
      | normal=>
       rw[hx] at hv;have eX:ev O.prog O.aG (j+1) (.loop ((O.hint h).live l) x') s1=D5 (ex,s'):=hv;rw[LR] at eX;have⟨K,hK⟩:=ihj (by lia) s1 ex s' eX;exact⟨K,fun _=>hK⟩
      | ret=>exact⟨0,fun h=>by cases h⟩
      | exit id=>exact⟨0,fun h=>by cases h⟩
     have⟨K,hK⟩:=more;refine⟨K+1,fun ro lo m S w a cB ht hh hb hn aZ eN cd=>?_⟩;rw[roundsIn_succ];have⟨m1,c1,c2,c3,c4,c5⟩:=PF (live:=(O.hint h).live l) ht hh hb;have h1:=ih (l+1) k (j+1) hj _ ex1 s1 (by rw[ze];exact hx) ro lo m1 S w a cB c1 c2 (by rw[c3];exact c4) hn aZ eN cd
     refine wpIn_mono h1 ?_;rintro e a1 w1 hp;have an:=eh.then (O:=O) (m:=m) (S:=S) (w:=w) (s:=s) (ex1:=.normal) c3 c5 hp;obtain⟨rfl,_⟩:=hp
     cases ex1 with
     | normal=>
      simp only[qR,Exit.then];have⟨_,m2,S2,g1,g2,g3,g4,g5,g6,g7⟩:=an;have h2:=hK rfl ro lo m2 S2 w1 a1 (Li g5 cB) g1 g2 (by rw[g3];exact g4) (by rw[g6];exact hn) aZ (y9 eN g5.size) g7
      rw[g6] at h2;revert h2;generalize hA:a.tmps.size=sz;intro h2;have step:∀(K:Nat) (a':Act) (w':yi),Code.roundsIn (WF ro) 0 O.P x (eh O m2 S2 w1 s1 ex s' sz lo) K a' w'->Code.roundsIn (WF ro) 0 O.P x (eh O m S w s ex s' sz lo) K a' w':=by
       intro K
       induction K with
       | zero=>intro a' w' B1;exact B1
       | succ K ihK=>
        intro a' w' B1;rw[roundsIn_succ] at B1 ⊢;refine wpIn_mono B1 (fun e a'' Ot hq=>?_)
        cases e with
        | normal=>exact ihK a'' Ot hq
        | exit id=>exact eh.then (ex1:=.normal) g3 g5 hq
        | goto x=>exact eh.then (ex1:=.normal) g3 g5 hq
        | ret=>exact eh.then (ex1:=.normal) g3 g5 hq
        | panic x=>exact eh.then (ex1:=.normal) g3 g5 hq
        | outgrown=>exact eh.then (ex1:=.normal) g3 g5 hq
      exact step K a1 w1 h2
     | ret=>obtain⟨rfl,rfl⟩:=stop (by simp);exact an
     | exit id=>obtain⟨rfl,rfl⟩:=stop (by simp);exact an
  have⟨K,hK⟩:=rounds j hj s ex s' hv;intro ro lo m S w a cB ht hh hb hn aZ eN cd;exact wpIn_loop_rounds K (hK ro lo m S w a cB ht hh hb hn aZ eN cd)
 | scope x ih=>
  intro l k j hj s ex s' hv ro lo m S w a cB ht hh hb hn aZ eN cd;simp only[comp] at hv;exact ahO (ih l k j hj s ex s' hv ro lo m S w a cB ht hh hb hn aZ eN cd) (fun l a w=>eh.none l)
 | rangeFunc f ps as_ body iha ihb=>
  intro l k j hj s ex s' hv;simp only[comp] at hv;generalize ze:comp O.P (O.hint h) as_ l k=qx at hv;have⟨x',l1,k1⟩:=qx;simp only at hv;generalize J9:comp O.P (O.hint h) body l1 k1=qy at hv;have⟨y',l2,k2⟩:=qy;simp only at hv
  cases ha:zS (O.hint h).n ps.toList with
  | false=>rw[ha] at hv;exact (SR hv).elim
  | true=>
   rw[ha] at hv;exact as6 hO (hC j hj) ⟨l,k,by rw[ze]⟩ ⟨l1,k1,by rw[J9]⟩ ha hv
end
end
end
section
open Go
section
variable {v:AV}{args:Array yg}{ap:List AV}{n:Nat}{s:St}
section
variable {O:bk}{m:Mp}{S:Nat->Prop}{w:yi}
def X1:∀(ap:List AV) (j i:Nat),aj (eL j ap) (j+i)=ap.getD i .undef
 | [],j,i=>by simp[eL,aj]
 | v::r,j,i=>by
  cases i with
  | zero=>simp[eL,aj]
  | succ i=>
   simp only[eL,aj];have hb:yo j (j+(i+1))=ycH:=by
    cases hq:yo j (j+(i+1)) with
    | false=>rfl
    | true=>have:=yf hq;lia
   rw[hb,show j+(i+1)=j+1+i by lia];rw[X1 r (j+1) i]
   simp
def X2(n:Nat)(h:ax O.ab m S w ap args.toList):bN O m S w (eL 0 ap) (args++vY n undef):=by
 intro i
 have:=X1 ap 0 i
 rw[yd] at this;rw[this,yY]
 cases hv:ap[i]? with
 | none=>simp only[Option.getD_none,ae]
 | some v=>
  have⟨u,h1,h2⟩:=Qm h hv;have hl:i<args.size:=by
   grind
  have:(args++vY n undef).getD i undef=u:=by
   rw[xZ,yab hl]
   grind
  grind
def E2(tmps:Array yg):ycm->Sem yg
 | .tmp t=>pure (tmps.getD t undef)
 | .cell a t=>do loadVar t (<-asAddr (tmps.getD a undef))
def ahP(fn:yas)(tmps:Array yg):results fn tmps=(do let vs <-fn.results.mapM (E2 tmps);pure (if h:vs.size=1 then vs[0] else .tuple vs)):=by
 rfl
def PH{s:St}{ct:Nat}{tmps:Array yg}(hh:aP O m S w s.hp ct)(ht:bN O m S w s.tm tmps):∀{rs:List ycm} {rv:List RV} {vs:List AV},oX O.P rs=D5 rv->kY s rv=D5 vs->
  ∃us,(rs.mapM (E2 tmps)).run O.P w=.ok us w/\ax O.ab m S w vs us
 | [],rv,vs,h1,h2=>by
  simp only[oX,yb] at h1;subst h1;simp only[kY,yb] at h2;subst h2;exact⟨[],by simp,by simp[ax]⟩
 | .tmp t::rs,rv,vs,h1,h2=>by
  simp only[oX] at h1
  cases hc:oX O.P rs with
  | none=>simp[hc] at h1
  | some l=>
   simp only[hc,yb] at h1;subst h1;simp only[kY,results1] at h2
   cases hl:kY s l with
   | none=>simp[hl] at h2
   | some JO=>
    simp only[hl,yb] at h2;subst h2;have⟨us,g1,g2⟩:=PH hh ht hc hl;refine⟨tmps.getD t undef::us,?_,by simp only[ax];exact⟨_,_,rfl,ht t,g2⟩⟩
    rw[uo];simp only[E2,Sem.run_bind,Sem.run_pure,Result.andThen_ok];rw[g1];rfl
 | .cell a t::rs,rv,vs,h1,h2=>by
  simp only[oX] at h1
  cases hz:bU O.P t with
  | none=>simp[hz] at h1
  | some sz=>
   cases sW:cU O.P t with
   | none=>simp[hz,sW] at h1
   | some ag=>
    cases hc:oX O.P rs with
    | none=>simp[hz,sW,hc] at h1
    | some l=>
     simp only[hz,sW,hc,yb] at h1;subst h1;simp only[kY] at h2
     cases eJ:results1 s (.cell a sz ag) with
     | none=>simp[eJ] at h2
     | some v=>
      cases hl:kY s l with
      | none=>simp[eJ,hl] at h2
      | some JO=>
       simp only[eJ,hl,yb] at h2;subst h2;have⟨us,g1,g2⟩:=PH hh ht hc hl;have ra:=ht a;have key:∃b o u,tmps.getD a undef=.pointer (D5 ⟨b,o,D6⟩)/\(loadVar t ⟨b,o,D6⟩).run O.P w=.ok u w/\ae O.ab m S w v u:=by
        simp only[results1] at eJ;cases hta:aj s.tm a<;>rw[hta] at eJ ra<;>simp only[reduceCtorEq] at eJ
        .rename_i id o;simp only[ae] at ra;have⟨p,hm,hp⟩:=ra
         cases hg:ai s.hp id with
         | none=>simp[hg] at eJ
         | some ob=>
          cases ob<;>simp only[hg,reduceCtorEq] at eJ
          have UO:=Ql (o:=0) (n:=0) hh hg hm;have⟨u,q1,q2⟩:=LL hz sW (qD o _ p.b p.o UO) eJ;exact⟨p.b,p.o+o,u,hp,q1,q2⟩
        .rename_i cs;simp only[ae] at ra;have⟨b,o,hp,_,_,UO⟩:=ra;have⟨u,q1,q2⟩:=LL hz sW UO eJ;exact⟨b,o,u,hp,q1,q2⟩
       have⟨b,o,u,q1,q2,q3⟩:=key;refine⟨u::us,?_,by simp only[ax];exact⟨_,_,rfl,q3,g2⟩⟩
       rw[uo]
       have:(E2 tmps (.cell a t)).run O.P w=.ok u w:=by
        simp only[E2];rw[q1];simp[asAddr,q2]
       rw[Sem.run_bind,this,Result.andThen_ok,Sem.run_bind,g1];rfl
def aha{ct:Nat}{tmps:Array yg}{fn:yas}{rv:List RV}(hh:aP O m S w s.hp ct)(ht:bN O m S w s.tm tmps)(h1:oX O.P fn.results.toList=D5 rv)(h2:ig s rv=D5 v):
  ∃u,(results fn tmps).run O.P w=.ok u w/\ae O.ab m S w v u:=by
 unfold ig at h2
 cases hl:kY s rv with
 | none=>simp[hl] at h2
 | some vs=>
  have⟨us,g1,g2⟩:=PH hh ht h1 hl;have hlen:=fP _ _ g2;have hm:(fn.results.mapM (E2 tmps)).run O.P w=.ok us.toArray w:=by
   rw[Array.mapM_eq_mapM_toList];simp[g1]
  have du:(results fn tmps).run O.P w=.ok (if h:us.toArray.size=1 then us.toArray[0] else .tuple us.toArray) w:=by
   rw[ahP,Sem.run_bind,hm];rfl
  rw[hl] at h2
  split at h2
  .rename_i v' ru;simp only[yb] at ru h2;subst ru;simp only[ax] at g2
   grind
  .rename_i dM dV ru;simp only[yb] at ru h2;subst ru;subst h2;have h1:¬us.toArray.size=1:=by
    intro h
    have:vs.length=1:=by simp_all
    cases vs with
    | nil=>simp at this
    | cons x t=>
     cases t with
     | nil=>exact dV x rfl
     | cons y t=>simp at this
   simp only[ae]
   grind
  .grind
def P3{s:St}{tmps:Array yg}{fn:yas}{rv:List RV}{v:AV}{m0:Mp}{S0:Nat->Prop}{w0:yi}{hp0:Hp}{OE:Nat}(h1:oX O.P fn.results.toList=D5 rv)(h2:ig s rv=D5 v)(fH:OE<=s.ct):∀(rs:List Nat) (w:yi),
  rs.Nodup->(∀r,r∈rs->w.heap[r]? =D5 (.deferred (D5 []))/\¬S r/\w0.heap.size<=r)->O.w0.heap.size<=w0.heap.size->aP O m S w s.hp s.ct->bN O m S w s.tm tmps->bR m0 S0 w0 hp0 m S w s.hp OE->
  yco Fence.wide 0 O.P fn tmps (zx O m0 S0 w0 hp0 OE v s.hp s.ct) (rs.map (fun r=>{target:=.collected r,args:=#[]})) .returning w
 | [],w,_,_,_,hh,ht,hf=>by
  have⟨u,g1,g2⟩:=aha hh ht h1 h2;exact⟨u,g1,u,m,S,rfl,hh,fH,g2,hf⟩
 | r::rs,w,kS,hr,aZ,hh,ht,hf=>by
  have⟨kC,dn⟩:=List.nodup_cons.1 kS;have⟨a1,a2,a3⟩:=hr r wm;have fE:=D8 w r (.deferred D6);have oD:¬dI m s.hp r:=fun ho=>YH hh ho _ a1
  have B1:=Xb hh fE a2 oD (y9 aZ a3)
  have aQ:fg S w {w with heap:=w.heap.setIfInBounds r (.deferred D6)}:=fun b hb=>fE.other b (fun e=>a2 (e▸hb))
  have BX:bR m0 S0 w0 hp0 m S {w with heap:=w.heap.setIfInBounds r (.deferred D6)} s.hp OE:=by
   refine⟨hf.os,hf.tape,hf.output,by rw[fE.size];exact hf.size,fun b hb ho=>(fE.other b (by lia)).trans (hf.same b hb ho),hf.sub,fun b hb=>(fE.other b (fun e=>a2 (e▸hf.sub b hb))).trans (hf.still b hb),hf.new,hf.own,hf.old,fun b x hb=>?_⟩
   have⟨x',hx⟩:=hf.loops b x hb;exact⟨x',(fE.other b (fun e=>by subst e;rw[a1] at hx;cases hx)).trans hx⟩
  refine⟨by simp,.inl ⟨r,_,rfl,?_,P3 h1 h2 fH rs _ dn (fun r' bq=>?_) aZ B1 (AU (fun _ _ h=>h) (fun _ h=>h) aQ ht) BX⟩⟩
  .simp only [Instr.takeDeferred,Sem.run_bind,Xc (P:=O.P) a1 (fun _ _ _=>by simp),Result.andThen_ok,K0 (P:=O.P) a1 (fun _ _ _=>by simp),Sem.run_pure]
  .have ⟨b1,b2,b3⟩:=hr r' (xG _ bq);exact⟨(fE.other r' (fun e=>kC (e▸bq))).trans b1,b2,b3⟩
end
section
variable {O:bk}{self:bZ}
def as8(hO:gC O)(hS:∀v s ex s',self v s=D5 (ex,s')->∀c h l k,(comp O.P (O.hint h) c l k).1=v->Bu O h c s ex s'){F:az}(hF:O.prog n=D5 F){hp:Hp}{ct:Nat}{ex:Ex}(hv:self F.body ⟨eL 0 ap,hp,ct,ct⟩=D5 (ex,s))(hex:ex=.normal\/ex=.ret)(hr:ig s F.eA=D5 v):Bt O n hp ct ap v s.hp s.ct:=by
 intro m S w args hh dQ;have⟨fn,q1,q2,q3⟩:=hO.prog n F hF;have⟨c,q4,q5,q6,q7⟩:=Pw q2;refine .inl ⟨Ej q1 (by rw[q4];rfl) q3,?_⟩
 have hc:=hS _ _ _ _ hv c n 0 0 q5.symm;have hw:=hc D6 w.heap.size m S w {tmps:=args++vY (fn.ntmps-args.size) undef,defers:=[]} (fun l hl=>by cases hl) (X2 _ dQ) hh (yq _) (by simp;lia) hh.fk (yq _) ⟨[],rfl,by simp,by simp⟩
 refine callsIn_of_wp_marks (F:=Fence.wide) q1 q4 trivial (wpIn_mono hw ?_);rintro e a' w' ⟨rfl,m',S',k1,k2,k3,k4,k5,k6,rs,k7,k8,k9⟩;have main:yco Fence.wide 0 O.P fn a'.tmps (zx O m S w hp ct v s.hp s.ct) a'.defers .returning w':=by
  rw[k7];exact P3 q6 hr k4 rs w' k8 k9 hh.fk k2 k1 k5
 rcases hex with rfl | rfl
 .exact main
 .exact main
def A9.mono{P:xi}{f:tC}{w:yi}{R R':yaH->yi->Prop}(h:A9 P f args w R)(hr:∀e w',R e w'->R' e w'):A9 P f args w R':=by
 rcases h with ⟨h1,h2⟩ | ⟨u,w',h1,h2⟩
 .exact .inl ⟨h1,CallsIn.mono h2 hr⟩
 .exact .inr ⟨u,w',h1,hr _ _ h2⟩
def aiO{w:yi}{S:Nat->Prop}(hg:Bs O w)(hs:∀b,S b->b<w.heap.size):aP O eB S w [] 0:=
 ⟨(fun id o p h _=>by simp[ai] at h),(fun id p h=>by cases h),(fun i j oi oj pi pj h=>by simp[ai] at h),hs,(fun id p h=>by cases h),(fun id p h=>by cases h),hg.1,hg.2,(fun id o h=>by simp[ai] at h)⟩
def Qw{b:Nat}(h:dI eB [] b):False:=by
 have⟨_,_,_,h,_⟩:=h;simp[ai] at h
def Po{r:AV}(h:Bt O n [] 0 ap v s.hp s.ct)(hr:result s.hp v=D5 r):dL O n ap r:=by
 intro w S args hg hs dQ hp;refine A9.mono (h eB S w args (aiO hg hs) dQ) ?_;rintro e w' ⟨u,m',S',rfl,k1,k2,k3,k4⟩;have aZ:∀b,dI m' s.hp b->w.heap.size<=b:=fun b hb=>(k4.own b hb).elim (fun h=>(Qw h).elim) (fun h=>h)
 have⟨S2,g1,g2,g3,g4⟩:=aiE (lo:=w.heap.size) k1 hr k3 aZ;refine⟨u,S2,rfl,⟨k4.os,k4.tape,k4.output,k4.size,fun b hb=>k4.same b hb Qw⟩,fun b hb=>g1 b (k4.sub b hb),fun b hb=>?_,g3,g4⟩;rcases g2 b hb with h | h
 .rcases k4.new b h with h | h | h
  .exact .inl h
  .exact (Qw h).elim
  .exact .inr h
 .exact .inr (aZ b h)
def ahQ(hO:gC O)(hS:∀v s ex s',self v s=D5 (ex,s')->∀c h l k,(comp O.P (O.hint h) c l k).1=v->Bu O h c s ex s'):nO O self:=by
 have heap:∀(n:Nat) (F:az),O.prog n=D5 F->∀(hp:Hp) (ct:Nat) (ap:List AV) (ex:Ex) (s:St) (v:AV),self F.body ⟨eL 0 ap,hp,ct,ct⟩=D5 (ex,s)->(ex=.normal\/ex=.ret)->ig s F.eA=D5 v->Bt O n hp ct ap v s.hp s.ct:=
  fun n F hF hp ct ap ex s v h1 h2 h3=>as8 hO hS hF h1 h2 h3
 refine⟨?_,?_,fun hp ct l xs v an aK hv=>akF hS hv⟩
 .intro n ap r hv;unfold bQ at hv
  cases hL:O.aG.pure n with
  | some sp=>rw[hL] at hv;exact hO.aG n sp ap r hL hv
  | none=>
   simp only[hL] at hv
   cases hF:O.prog n with
   | none=>simp[hF] at hv
   | some F=>
    simp only[hF] at hv
    split at hv
    .rename_i s hb
     cases hr:ig s F.eA with
     | none=>simp[hr] at hv
     | some v=>simp only[hr] at hv;exact Po (heap n F hF [] 0 ap .normal s v hb (.inl rfl) hr) hv
    .rename_i s hb
     cases hr:ig s F.eA with
     | none=>simp[hr] at hv
     | some v=>simp only[hr] at hv;exact Po (heap n F hF [] 0 ap .ret s v hb (.inr rfl) hr) hv
    .cases hv
 .intro hp ct n ap v an aK hv;unfold ir at hv
  cases hL:O.aG.heap n with
  | some sp=>rw[hL] at hv;exact hO.E0 n sp hp ct ap v an aK hL hv
  | none=>
   simp only[hL] at hv
   cases hF:O.prog n with
   | none=>simp[hF] at hv
   | some F=>
    grind
def WG(hO:gC O):∀n,nO O (ev O.prog O.aG n):=by
 intro n
 induction n using vB with
 | _ n ih=>
  refine ahQ hO (fun v s ex s' hv c h l k hc=>?_)
  cases n with
  | zero=>rw[HC] at hv;cases hv
  | succ n=>
   rw[LR,<-hc] at hv;exact ZW hO n (fun k hk=>ih k (by lia)) h c l k n (yq _) s ex s' hv
def sound(hO:gC O){f:Nat}{r:AV}(h:Un O.prog O.aG n f ap=D5 r):dL O f ap r:=(WG hO n).pure f ap r h
end
end
end
def kj:List Nat->List Nat->Bool
 | [],_=>ycG
 | a::x,b::y=>yo a b&&kj x y
 | _::_,[]=>ycH
def qM(sub:List Nat):List Nat->Nat->Option Nat
 | [],k=>bif kj sub [] then D5 k else D6
 | b::r,k=>bif kj sub (b::r) then D5 k else qM sub r (k+1)
def Ng:List AV->Option AV
 | [.str s,.str sep]=>
  bif yF s.length 4294967281 then
   match qM sep s 0 with
   | some i=>D5 (.ay [.str (s.take i),.str (s.drop (i+sep.length)),.bool ycG])
   | none=>D5 (.ay [.str s,.str [],.bool ycH])
  else D6
 | _=>D6
def K2:List AV->Option AV
 | [.str s,.str p]=>D5 (bif kj p s then .ay [.str (s.drop p.length),.bool ycG] else .ay [.str s,.bool ycH])
 | _=>D6
def K3:List AV->Option AV
 | [.str s,.str p]=>D5 (.bool (kj p s))
 | _=>D6
def KP:List AV->Option AV
 | [.str s,.str p]=>D5 (.str (bif kj p s then s.drop p.length else s))
 | _=>D6
def Nh(i:Nat):List Nat->Bool
 | []=>ycH
 | j::r=>bif yo j i then ycG else Nh i r
def IC(set:List Nat):List Nat->List Nat
 | []=>[]
 | b::r=>bif Nh b set then IC set r else b::r
def HN:List Nat->Bool
 | []=>ycG
 | b::r=>yF b 128&&HN r
def trimS:List AV->Option AV
 | [.str s,.str set]=>bif HN set&&(yF s.length 4294967281&&yF set.length 4294967281) then D5 (.str (IC set (IC set s.reverse).reverse)) else D6
 | _=>D6
def gI(s:List Nat):Nat->List Nat
 | 0=>[]
 | n+1=>s++gI s n
def Ba:List AV->Option AV
 | [.str s,.int .i64 (.ofNat n)]=>bif yz n 1099511627776&&yz (s.length*n) 1099511627776 then D5 (.str (gI s n)) else D6
 | _=>D6
def mL:Nat->Nat->List Nat->List Nat
 | 0,_,acc=>acc
 | f+1,n,acc=>bif yF n 10 then (48+n)::acc else mL f (n/10) ((48+n%10)::acc)
def aC(n:Nat):List Nat:=mL (n+1) n []
def bc:Int->List Nat
 | .ofNat n=>aC n
 | .negSucc n=>45::aC (n+1)
def Bw:Int->Bool
 | .ofNat n=>yF n 9223372036854775808
 | .negSucc n=>yF n 9223372036854775808
def ID:List AV->Option AV
 | [.int .i64 n]=>bif Bw n then D5 (.str (bc n)) else D6
 | _=>D6
def AQ:List AV->Option AV
 | [.int .u64 (.ofNat n),.int .i64 10]=>bif yF n 18446744073709551616 then D5 (.str (aC n)) else D6
 | _=>D6
def cG:List Nat->Nat->Option Nat
 | [],a=>D5 a
 | b::r,a=>bif yz 48 b&&yz b 57 then cG r (10*a+(b-48)) else D6
def IE:List AV->Option AV
 | [.str s]=>
  bif yF 0 s.length&&yz s.length 18 then
   match cG s 0 with | some n=>D5 (.ay [.int .i64 n,.undef]) | none=>D6
  else D6
 | _=>D6
def nQ:List AV->Option AV
 | [.int .u64 (.ofNat x),.int .u64 (.ofNat y),.int .u64 (.ofNat c)]=>
  bif yz c 1&&(yF x 18446744073709551616&&yF y 18446744073709551616) then D5 (.ay [.int .u64 ((x+y+c)%18446744073709551616:Nat),.int .u64 ((x+y+c)/18446744073709551616:Nat)]) else D6
 | _=>D6
def Bf:List AV->Option AV
 | [.int .u64 (.ofNat x),.int .u64 (.ofNat y),.int .u64 (.ofNat c)]=>
  bif yz c 1&&(yF x 18446744073709551616&&yF y 18446744073709551616) then D5 (.ay [.int .u64 ((x+18446744073709551616*2-y-c)%18446744073709551616:Nat),.int .u64 (bif yz (y+c) x then 0 else 1)]) else D6
 | _=>D6
def rW:List AV->Option AV
 | [.int .u64 (.ofNat x),.int .u64 (.ofNat y)]=>bif yF x 18446744073709551616&&yF y 18446744073709551616 then D5 (.ay [.int .u64 (x*y/18446744073709551616:Nat),.int .u64 (x*y%18446744073709551616:Nat)]) else D6
 | _=>D6
def jb:Nat->Nat->Nat
 | 0,_=>0
 | f+1,n=>bif yo n 0 then 0 else 1+jb f (n/2)
def Mi:List AV->Option AV
 | [.int .u64 (.ofNat x)]=>bif yF x 18446744073709551616 then D5 (.int .i64 (jb 64 x)) else D6
 | _=>D6
def EV:List AV->Option AV
 | [.int .u64 (.ofNat x)]=>bif yF x 18446744073709551616 then D5 (.int .i64 (64-jb 64 x:Nat)) else D6
 | _=>D6
def Qx:List AV->Option AV
 | [.au .f64 b]=>D5 (.int .u64 b)
 | _=>D6
def Pq:List AV->Option AV
 | [.int .u64 (.ofNat n)]=>D5 (.au .f64 n)
 | _=>D6
section
open Go
section
variable {a:AV}{args:Array yg}{ap:List AV}{s:List Nat}{w:yi}
section
variable {O:bk}{n:Nat}
def G8{w':yi}(h:RowKit.Below w.heap.size w w'):Calm w w':=⟨h.os,h.tape,h.output,h.size,h.block⟩
def aiP(k:Nat):Calm w (w.drewN k):=⟨rfl,rfl,rfl,yq _,fun _ _=>rfl⟩
def aiQ(h:Bs O w){a:Addr}{v:yg}(hc:O.w0.cell? a=D5 v):w.cell? a=D5 v:=by
 have hb:a.block<O.w0.heap.size:=by
  unfold World.cell? at hc
  cases hq:O.w0.heap[a.block]? with
  | none=>simp[hq] at hc
  | some o=>exact (xo.1 hq).1
 unfold World.cell? at hc ⊢;rw[h.1 _ hb];exact hc
def nL{r:AV}(hr:∀S w' lo u,ae O.ab eB S w' r u->nZ O.ab S w' lo r u)(eS:∀args w,(callFunc (O.ab n) args).run O.P w=.ok (.enter (O.ab n) args) w)(h:∀w S args,Bs O w->ax O.ab eB S w ap args.toList->wg O.P (O.ab n) args w fun e w'=>∃u,e=.returned u/\Calm w w'/\∀S,ae O.ab eB S w' r u):dL O n ap r:=by
 intro w S args hg hS dl _;refine .inl ⟨eS args w,Go.callsIn_wide.2 ((h w S args hg dl).mono ?_)⟩;rintro e w' ⟨u,rfl,hc,hu⟩;exact⟨u,S,rfl,hc,fun _ h=>h,fun _ h=>.inl h,fun b hb=>yE (hS b hb) hc.size,hr S w' _ u (hu S)⟩
def Lj{r:AV}(hr:∀S w' lo u,ae O.ab eB S w' r u->nZ O.ab S w' lo r u)(h:∀w S args,ax O.ab eB S w ap args.toList->∃u,(callFunc (O.ab n) args).run O.P w=.ok (.value u) w/\∀S,ae O.ab eB S w r u):dL O n ap r:=by
 intro w S args _ hS dl _;have⟨u,h1,h2⟩:=h w S args dl;exact .inr ⟨u,w,h1,u,S,rfl,Calm.refl,fun _ h=>h,fun _ h=>.inl h,hS,hr S w _ u (h2 S)⟩
def HE:∀S w' lo u,ae O.ab eB S w' (.str s) u->nZ O.ab S w' lo (.str s) u:=fun S w' lo u h=>⟨[],rfl,h,rfl⟩
def Q2{k:IntKind}{z:Int}:∀S w' lo u,ae O.ab eB S w' (.int k z) u->nZ O.ab S w' lo (.int k z) u:=fun S w' lo u h=>⟨[],rfl,h,rfl⟩
def amG{k:FloatKind}{z:Nat}:∀S w' lo u,ae O.ab eB S w' (.au k z) u->nZ O.ab S w' lo (.au k z) u:=fun S w' lo u h=>⟨[],rfl,h,rfl⟩
def YK{b:Bool}:∀S w' lo u,ae O.ab eB S w' (.bool b) u->nZ O.ab S w' lo (.bool b) u:=fun S w' lo u h=>⟨[],rfl,h,rfl⟩
def Xd{S:Nat->Prop}{w':yi}{lo:Nat}:∀{vs:List AV} {us:List yg},(∀v,v∈vs->(∀ex sz k cs,v≠.cu ex sz k cs)/\aS v=ycG)->ax O.ab eB S w' vs us->kO O.ab S w' lo vs us []
 | [],us,_,h=>by simp only[ax] at h;exact⟨h,rfl⟩
 | v::vs,us,hv,h=>by
  simp only[ax] at h;obtain⟨u,t,rfl,h1,h2⟩:=h;have h3:=hv v (by simp);refine⟨u,t,[],[],rfl,rfl,?_,Xd (fun v hm=>hv v (by simp[hm])) h2⟩;cases v<;>first | exact⟨rfl,h1,h3.2⟩ | exact absurd rfl (h3.1 _ _ _ _)
def En{vs:List AV}(hv:∀v,v∈vs->(∀ex sz k cs,v≠.cu ex sz k cs)/\aS v=ycG):∀S w' lo u,ae O.ab eB S w' (.ay vs) u->nZ O.ab S w' lo (.ay vs) u:=by
 intro S w' lo u h;obtain⟨xs,rfl,h⟩:=h;exact⟨xs,[],rfl,Xd hv h,by simp⟩
def Db{S:Nat->Prop}(h:ax O.ab eB S w [a] args.toList):∃u,args=#[u]/\ae O.ab eB S w a u:=by
 simp only[ax] at h
 grind
def Bx{S:Nat->Prop}{b:AV}(h:ax O.ab eB S w [a,b] args.toList):∃u v,args=#[u,v]/\ae O.ab eB S w a u/\ae O.ab eB S w b v:=by
 simp only[ax] at h
 grind
def abk{S:Nat->Prop}{b c:AV}(h:ax O.ab eB S w [a,b,c] args.toList):∃u v x,args=#[u,v,x]/\ae O.ab eB S w a u/\ae O.ab eB S w b v/\ae O.ab eB S w c x:=by
 simp only[ax] at h
 grind
def G9{S:Nat->Prop}{l:List UInt8}(h:l.map xe=s):ae O.ab eB S w (.str s) (.string ⟨l.toArray⟩):=by
 simp only[ae];exact⟨_,rfl,h⟩
def toNat_inj{a b:UInt8}:yo a.toNat b.toNat=(a==b):=by
 by_cases h:a=b
 .simp_all
 .have h':a.toNat≠b.toNat:=fun e=>h (UInt8.toNat_inj.1 e)
  have e:(a==b)=ycH:=by simp_all
  rw[e]
  cases hq:yo a.toNat b.toNat with
  | false=>rfl
  | true=>exact absurd (yf hq) h'
def Hh:∀(p s:List UInt8),kj (p.map xe) (s.map xe)=p.isPrefixOf s
 | [],s=>by cases s<;>rfl
 | a::p,[]=>rfl
 | a::p,b::s=>by
  simp only[yV,kj,List.isPrefixOf,Hh p s,toNat_inj]
def Xe:∀(s sep:List UInt8) (k:Nat),qM (sep.map xe) (s.map xe) k=if 0<=Lib.index s sep then D5 (k+(Lib.index s sep).toNat) else D6
 | [],sep,k=>by
  simp only[List.map_nil,qM,Lib.index]
  cases sep with
  | nil=>simp[kj]
  | cons a r=>simp[kj]
 | b::s,sep,k=>by
  have ih:=Xe s sep (k+1);have hp:=Hh sep (b::s);simp only[yV,qM,hp,Lib.index]
  grind
def YL(b:UInt8):∀cs:List UInt8,Nh b.toNat (cs.map xe)=cs.contains b
 | []=>rfl
 | c::cs=>by
  simp only[yV,Nh,YL b cs,List.contains_cons,toNat_inj]
  grind
def P4(cs:List UInt8):∀l:List UInt8,IC (cs.map xe) (l.map xe)=(l.dropWhile (cs.contains ·)).map xe
 | []=>rfl
 | b::l=>by
  simp only[yV,IC,YL,List.dropWhile_cons,P4 cs l]
  grind
def YM(l:List UInt8):∀n,gI (l.map xe) n=(Lib.repeatL l n).map xe
 | 0=>rfl
 | n+1=>by simp only[gI,Lib.repeatL,xk,YM l n]
def WH:∀(f n:Nat) (acc:List Nat),n<f->mL f n acc=(Lib.decDigits n).map xe++acc
 | 0,n,acc,h=>by lia
 | f+1,n,acc,h=>by
  rw[mL,Lib.decDigits];by_cases hn:n<10
  .rw [show yF n 10=ycG from yt hn,yr,dif_pos hn]
   have:(ybK (48+n)).toNat=48+n:=by
    rw[yaK];lia
   grind
  .have hb:yF n 10=ycH:=by
    cases hq:yF n 10 with
    | false=>rfl
    | true=>exact absurd (yv hq) (by lia)
   rw[hb,yJ,dif_neg hn,WH f (n/10) _ (by lia),xk,List.append_assoc]
   have:(ybK (48+n%10)).toNat=48+n%10:=by
    rw[yaK];lia
   grind
def Qy(n:Nat):aC n=(Lib.decDigits n).map xe:=by
 rw[aC,WH (n+1) n [] (by lia),List.append_nil]
def akH(n:Int):bc n=(Lib.itoa n).map xe:=by
 cases n with
 | ofNat k=>
  have:¬ybl k<0:=by simp
  simp only[bc,Lib.itoa,this,xq,Qy];rfl
 | negSucc k=>
  have:Int.negSucc k<0:=Int.negSucc_lt_zero k
  simp only[bc,Lib.itoa,this,xN,Qy,yV];rfl
def Qz:∀f x:Nat,jb f x=Lib.bitLenAux f x
 | 0,_=>rfl
 | f+1,x=>by
  rw[jb,Lib.bitLenAux];by_cases h:x=0
  .simp_all
  .have hb:yo x 0=ycH:=by
    cases hq:yo x 0 with
    | false=>rfl
    | true=>exact absurd (yf hq) h
   rw[hb,yJ,yx h,Qz f]
def Xf:∀{cs:List UInt8},HN (cs.map xe)=ycG->∀(j:Nat) b,cs[j]? =D5 b->b.toNat<128
 | [],_,j,b,h=>by simp at h
 | c::cs,h,j,b,hb=>by
  simp only[yV,HN,ye] at h
  cases j with
  | zero=>
   simp_all
  | succ j=>exact Xf h.2 j b (by simpa using hb)
def YN:∀{l:List UInt8} {a z:Nat},cG (l.map xe) a=D5 z->Lib.decFrom a l=D5 z
 | [],a,z,h=>h
 | b::l,a,z,h=>by
  simp only[yV,cG] at h
  cases hb:(yz 48 b.toNat&&yz b.toNat 57) with
  | false=>rw[hb] at h;cases h
  | true=>
   rw[hb] at h;simp only[ye] at hb;have h1:=yv hb.1;have h2:=yv hb.2
   have:=YN h
   rw[Lib.decFrom,Lib.digitVal,yN ⟨h1,h2⟩]
   grind
def akI{l:List UInt8}{z:Nat}(h:cG (l.map xe) 0=D5 z)(h0:0<l.length):Lib.atoi l=D5 (z:Int):=by
 cases l with
 | nil=>simp at h0
 | cons b r=>
  have hd:=YN h;have hb:48<=b.toNat:=by
   simp only[yV,cG] at h
   cases hb:(yz 48 b.toNat&&yz b.toNat 57) with
   | false=>rw[hb] at h;cases h
   | true=>
    simp_all
  have h1:(b==45)=ycH:=by
   have:b≠45:=fun e=>by subst e;exact absurd hb (by decide)
   grind
  have h2:(b==43)=ycH:=by
   have:b≠43:=fun e=>by subst e;exact absurd hb (by decide)
   grind
  simp only[Lib.atoi,h1,h2,yA,xq,Lib.decNat,List.isEmpty_cons,hd,wB]
section
variable {f:tC}
def agK(hf:O.ab n=f)(eS:∀args w,(callFunc f args).run O.P w=.ok (.enter f args) w)(hc:∀(s p:ByteArray) (w:yi),wg O.P f #[.string s,.string p] w fun e w'=>e=.returned (.tuple #[.string ⟨(Lib.trimPrefix s.data.toList p.data.toList).toArray⟩,.bool (Lib.hasPrefix s.data.toList p.data.toList)])/\w'=w):
  ∀ap r,K2 ap=D5 r->dL O n ap r:=by
 intro ap r h;unfold K2 at h
 split at h
 .rename_i s p;simp only[yb] at h;subst h;refine nL ?_ (by rw[hf];exact eS) ?_
  .cases kj p s<;>exact En (by simp[aS])
  .intro w S args hg dl;obtain⟨u,v,rfl,h1,h2⟩:=Bx dl;obtain⟨t1,rfl,rfl⟩:=h1;obtain⟨t2,rfl,rfl⟩:=h2;rw[hf];refine (hc t1 t2 w).mono ?_;rintro e w' ⟨rfl,rfl⟩;refine⟨_,rfl,Calm.refl,fun S=>?_⟩;rw[Hh,yX];unfold Lib.trimPrefix Lib.hasPrefix
   cases hp:t2.data.toList.isPrefixOf t1.data.toList with
   | true=>
    simp only[yr,xN,ae,ax]
    simp_all
   | false=>
    simp only[yJ,yA,xq,ae,ax]
    grind
 .cases h
def agL(hf:O.ab n=f)(eS:∀args w,(callFunc f args).run O.P w=.ok (.enter f args) w)(hc:∀(s p:ByteArray) (w:yi),wg O.P f #[.string s,.string p] w fun e w'=>e=.returned (.bool (Lib.hasPrefix s.data.toList p.data.toList))/\w'=w):
  ∀ap r,K3 ap=D5 r->dL O n ap r:=by
 intro ap r h;unfold K3 at h
 split at h
 .rename_i s p;simp only[yb] at h;subst h;refine nL YK (by rw[hf];exact eS) ?_
  intro w S args hg dl;obtain⟨u,v,rfl,h1,h2⟩:=Bx dl;obtain⟨t1,rfl,rfl⟩:=h1;obtain⟨t2,rfl,rfl⟩:=h2;rw[hf];refine (hc t1 t2 w).mono ?_;rintro e w' ⟨rfl,rfl⟩;refine⟨_,rfl,Calm.refl,fun S=>?_⟩;rw[Hh];simp only[ae,Lib.hasPrefix]
 .cases h
def agH(hf:O.ab n=f)(eS:∀args w,(callFunc f args).run O.P w=.ok (.enter f args) w)(hc:∀(s p:ByteArray) (w:yi),wg O.P f #[.string s,.string p] w fun e w'=>e=.returned (.string ⟨(Lib.trimPrefix s.data.toList p.data.toList).toArray⟩)/\w'=w):
  ∀ap r,KP ap=D5 r->dL O n ap r:=by
 intro ap r h;unfold KP at h
 split at h
 .rename_i s p;simp only[yb] at h;subst h;refine nL HE (by rw[hf];exact eS) ?_
  intro w S args hg dl;obtain⟨u,v,rfl,h1,h2⟩:=Bx dl;obtain⟨t1,rfl,rfl⟩:=h1;obtain⟨t2,rfl,rfl⟩:=h2;rw[hf];refine (hc t1 t2 w).mono ?_;rintro e w' ⟨rfl,rfl⟩;refine⟨_,rfl,Calm.refl,fun S=>?_⟩;rw[Hh,yX];refine G9 ?_;unfold Lib.trimPrefix Lib.hasPrefix
  cases hp:t2.data.toList.isPrefixOf t1.data.toList with
  | true=>simp[List.map_drop]
  | false=>simp
 .cases h
def amH(hf:O.ab n=f)(eS:∀args w,(callFunc f args).run O.P w=.ok (.enter f args) w){a:Addr}{m:Int}(hm:O.w0.cell? a=D5 (.int .i64 m))(hc:∀(s sep:ByteArray) (w:yi),s.size<4294967281->w.cell? a=D5 (.int .i64 m)->wg O.P f #[.string s,.string sep] w fun e w'=>e=.returned (.tuple #[.string ⟨(Lib.cut s.data.toList sep.data.toList).1.toArray⟩,.string ⟨(Lib.cut s.data.toList sep.data.toList).2.1.toArray⟩,.bool (Lib.cut s.data.toList sep.data.toList).2.2])/\∃n,w'=w.drewN n):
  ∀ap r,Ng ap=D5 r->dL O n ap r:=by
 intro ap r h;unfold Ng at h
 split at h
 .rename_i s sep
  cases hb:yF s.length 4294967281 with
  | false=>rw[hb] at h;cases h
  | true=>
   rw[hb] at h;have key:∀(q:List UInt8×List UInt8×Bool),(∀t1 t2:ByteArray,t1.data.toList.map xe=s->t2.data.toList.map xe=sep->r=.ay [.str ((Lib.cut t1.data.toList t2.data.toList).1.map xe),.str ((Lib.cut t1.data.toList t2.data.toList).2.1.map xe),.bool (Lib.cut t1.data.toList t2.data.toList).2.2])->
     (∃a b c,r=.ay [.str a,.str b,.bool c])->dL O n [.str s,.str sep] r:=by
    intro q hq ape;obtain⟨a',b',c',rfl⟩:=ape;refine nL (En (by simp[aS])) (by rw[hf];exact eS) ?_
    intro w S args hg dl;obtain⟨u,v,rfl,h1,h2⟩:=Bx dl;obtain⟨t1,rfl,e1⟩:=h1;obtain⟨t2,rfl,e2⟩:=h2;rw[hf];have hl:t1.size<4294967281:=by
     have:=mT hb
     rw[<-e1,yX] at this
     simp_all
    refine (hc t1 t2 w hl (aiQ hg hm)).mono ?_;rintro e w' ⟨rfl,k,rfl⟩;refine⟨_,rfl,aiP k,fun S=>?_⟩;simp only[ae,ax]
    grind
   refine key ([],[],ycH) ?_ ?_
   .intro t1 t2 e1 e2;subst e1;subst e2;rw[Xe] at h;unfold Lib.cut;by_cases h0:0<=Lib.index t1.data.toList t2.data.toList
    .simp_all
    .grind
   .grind
 .cases h
def akJ(hf:O.ab n=f)(eS:∀args w,(callFunc f args).run O.P w=.ok (.enter f args) w)(hc:∀(s cs:ByteArray) (w:yi),s.size<=9223372036854775807->cs.size<4294967281->(∀(j:Nat) b,cs.data.toList[j]? =D5 b->b.toNat<128)->wg O.P f #[.string s,.string cs] w fun e w'=>e=.returned (.string ⟨(Lib.trimS s.data.toList cs.data.toList).toArray⟩)/\RowKit.Below w.heap.size w w'):
  ∀ap r,trimS ap=D5 r->dL O n ap r:=by
 intro ap r h;unfold trimS at h
 split at h
 .rename_i s cs
  cases hb:(HN cs&&(yF s.length 4294967281&&yF cs.length 4294967281)) with
  | false=>rw[hb] at h;cases h
  | true=>
   rw[hb] at h;simp only[yr,yb] at h;subst h;simp only[ye] at hb;refine nL HE (by rw[hf];exact eS) ?_
   intro w S args hg dl;obtain⟨u,v,rfl,h1,h2⟩:=Bx dl;obtain⟨t1,rfl,rfl⟩:=h1;obtain⟨t2,rfl,rfl⟩:=h2;have ox:=mT hb.2.1;have oy:=mT hb.2.2;rw[yX] at ox oy;rw[hf];refine (hc t1 t2 w (by rw[Lib.size_eq];lia) (by rw[Lib.size_eq];lia) (Xf hb.1)).mono ?_
   rintro e w' ⟨rfl,hw⟩;refine⟨_,rfl,G8 hw,fun S=>G9 ?_⟩;simp only[Lib.trimS,Lib.trimLeftS,Lib.trimRightS];rw[<-yak,P4,<-yak,P4]
 .cases h
def ahR(hf:O.ab n=f)(eS:∀args w,(callFunc f args).run O.P w=.ok (.enter f args) w)(hc:∀(s:ByteArray) (c:Nat) (w:yi),c<=9223372036854775807->s.size*c<=140737488355328->wg O.P f #[.string s,.int .i64 c] w fun e w'=>e=.returned (.string ⟨(Lib.repeatL s.data.toList c).toArray⟩)/\RowKit.Below w.heap.size w w'):
  ∀ap r,Ba ap=D5 r->dL O n ap r:=by
 intro ap r h;unfold Ba at h
 split at h
 .rename_i s c
  cases hb:(yz c 1099511627776&&yz (s.length*c) 1099511627776) with
  | false=>rw[hb] at h;cases h
  | true=>
   rw[hb] at h;simp only[yr,yb] at h;subst h;simp only[ye] at hb;have l1:=yv hb.1;have l2:=yv hb.2;refine nL HE (by rw[hf];exact eS) ?_
   intro w S args hg dl;obtain⟨u,v,rfl,h1,h2⟩:=Bx dl;obtain⟨t1,rfl,rfl⟩:=h1;subst h2;rw[hf];rw[yX] at l2;refine (hc t1 c w (by lia) (by rw[Lib.size_eq];lia)).mono ?_
   rintro e w' ⟨rfl,hw⟩;exact⟨_,rfl,G8 hw,fun S=>G9 (YM _ _).symm⟩
 .cases h
def akK(hf:O.ab n=f)(eS:∀args w,(callFunc f args).run O.P w=.ok (.enter f args) w)(hc:∀(z:Int) (w:yi),-9223372036854775808<=z->z<=9223372036854775807->Bs O w->wg O.P f #[.int .i64 z] w fun e w'=>e=.returned (.string ⟨(Lib.itoa z).toArray⟩)/\Calm w w'):
  ∀ap r,ID ap=D5 r->dL O n ap r:=by
 intro ap r h;unfold ID at h
 split at h
 .rename_i z
  cases hb:Bw z with
  | false=>rw[hb] at h;cases h
  | true=>
   rw[hb] at h;simp only[yr,yb] at h;subst h;have hz: -9223372036854775808<=z/\z<=9223372036854775807:=by
    cases z with
    | ofNat k=>have:=mT hb;show -9223372036854775808<=(k:Int)/\(k:Int)<=9223372036854775807;lia
    | negSucc k=>have:=mT hb;lia
   refine nL HE (by rw[hf];exact eS) ?_
   intro w S args hg dl;obtain⟨u,rfl,h1⟩:=Db dl;subst h1;rw[hf];refine (hc z w hz.1 hz.2 hg).mono ?_;rintro e w' ⟨rfl,hw⟩;exact⟨_,rfl,hw,fun S=>G9 (akH z).symm⟩
 .cases h
def agI(hf:O.ab n=f)(eS:∀args w,(callFunc f args).run O.P w=.ok (.enter f args) w)(hc:∀(z:Nat) (w:yi),z<18446744073709551616->Bs O w->wg O.P f #[.int .u64 z,.int .i64 10] w fun e w'=>e=.returned (.string ⟨(Lib.decDigits z).toArray⟩)/\Calm w w'):
  ∀ap r,AQ ap=D5 r->dL O n ap r:=by
 intro ap r h;unfold AQ at h
 split at h
 .rename_i z
  cases hb:yF z 18446744073709551616 with
  | false=>rw[hb] at h;cases h
  | true=>
   rw[hb] at h;simp only[yr,yb] at h;subst h;refine nL HE (by rw[hf];exact eS) ?_
   intro w S args hg dl;obtain⟨u,v,rfl,h1,h2⟩:=Bx dl;subst h1;subst h2;rw[hf];refine (hc z w (mT hb) hg).mono ?_;rintro e w' ⟨rfl,hw⟩;exact⟨_,rfl,hw,fun S=>G9 (Qy z).symm⟩
 .cases h
def akL(hf:O.ab n=f)(eS:∀args w,(callFunc f args).run O.P w=.ok (.enter f args) w)(hc:∀(s:ByteArray) (z:Int) (w:yi),s.size<=18->Lib.atoi s.data.toList=D5 z->wg O.P f #[.string s] w fun e w'=>e=.returned (.tuple #[.int .i64 z,.nilIface])/\Calm w w'):
  ∀ap r,IE ap=D5 r->dL O n ap r:=by
 intro ap r h;unfold IE at h
 split at h
 .rename_i s
  cases hb:(yF 0 s.length&&yz s.length 18) with
  | false=>rw[hb] at h;cases h
  | true=>
   rw[hb] at h;simp only[yr] at h;simp only[ye] at hb;have l1:=mT hb.1;have l2:=yv hb.2
   split at h
   .rename_i z hz;simp only[yb] at h;subst h;refine nL (En (by simp[aS])) (by rw[hf];exact eS) ?_
    intro w S args hg dl;obtain⟨u,rfl,h1⟩:=Db dl;obtain⟨t1,rfl,rfl⟩:=h1;rw[yX] at l1 l2;have ha:Lib.atoi t1.data.toList=D5 (z:Int):=akI hz l1;rw[hf];refine (hc t1 z w (by rw[Lib.size_eq];exact l2) ha).mono ?_
    simp only[ae,ax]
    grind
   .cases h
 .cases h
def aiR(hf:O.ab n=f)(eS:∀args w,(callFunc f args).run O.P w=.ok (.enter f args) w)(hc:∀(x y:Nat) (w:yi),x<18446744073709551616->y<18446744073709551616->wg O.P f #[.int .u64 x,.int .u64 y] w fun e w'=>e=.returned (.tuple #[.int .u64 ((x*y/18446744073709551616:Nat):Int),.int .u64 ((x*y%18446744073709551616:Nat):Int)])/\w'=w):
  ∀ap r,rW ap=D5 r->dL O n ap r:=by
 intro ap r h;unfold rW at h
 split at h
 .rename_i x y
  cases hb:(yF x 18446744073709551616&&yF y 18446744073709551616) with
  | false=>rw[hb] at h;cases h
  | true=>
   rw[hb] at h;simp only[yr,yb] at h;subst h;simp only[ye] at hb;refine nL (En (by simp[aS])) (by rw[hf];exact eS) ?_
   intro w S args hg dl;obtain⟨u,v,rfl,h1,h2⟩:=Bx dl;subst h1;subst h2;rw[hf];refine (hc x y w (mT hb.1) (mT hb.2)).mono ?_;rintro e w' ⟨rfl,rfl⟩;refine⟨_,rfl,Calm.refl,fun S=>?_⟩;simp only[ae,ax]
   grind
 .cases h
def aiS(hf:O.ab n=f)(eS:∀args w,(callFunc f args).run O.P w=.ok (.enter f args) w)(hc:∀(x:Int) (w:yi),0<=x->x<=18446744073709551615->wg O.P f #[.int .u64 x] w fun e w'=>e=.returned (.int .i64 (Lib.bitLen x.toNat:Nat))/\w'=w):
  ∀ap r,Mi ap=D5 r->dL O n ap r:=by
 intro ap r h;unfold Mi at h
 split at h
 .rename_i x
  cases hb:yF x 18446744073709551616 with
  | false=>rw[hb] at h;cases h
  | true=>
   rw[hb] at h;simp only[yr,yb] at h;subst h
   have:=mT hb
   refine nL Q2 (by rw[hf];exact eS) ?_
   intro w S args hg dl;obtain⟨u,rfl,h1⟩:=Db dl;subst h1;rw[hf];refine (hc (ybl x) w (yad x) (by show (x:Int)<=_;lia)).mono ?_
   rintro e w' ⟨rfl,rfl⟩;refine⟨_,rfl,Calm.refl,fun S=>?_⟩;rw[Qz];rfl
 .cases h
def akM(hf:O.ab n=f)(eS:∀args w,(callFunc f args).run O.P w=.ok (.enter f args) w)(hc:∀(x:Int) (w:yi),0<=x->x<=18446744073709551615->wg O.P f #[.int .u64 x] w fun e w'=>e=.returned (.int .i64 (64-(Lib.bitLen x.toNat:Nat)))/\w'=w):
  ∀ap r,EV ap=D5 r->dL O n ap r:=by
 intro ap r h;unfold EV at h
 split at h
 .rename_i x
  cases hb:yF x 18446744073709551616 with
  | false=>rw[hb] at h;cases h
  | true=>
   rw[hb] at h;simp only[yr,yb] at h;subst h
   have:=mT hb
   have hle:∀f x,Lib.bitLenAux f x<=f:=by
    intro f
    induction f with
    | zero=>intro x;exact yq _
    | succ f ih=>
     intro x;rw[Lib.bitLenAux]
     grind
   refine nL Q2 (by rw[hf];exact eS) ?_
   intro w S args hg dl;obtain⟨u,rfl,h1⟩:=Db dl;subst h1;rw[hf];refine (hc (ybl x) w (yad x) (by show (x:Int)<=_;lia)).mono ?_
   rintro e w' ⟨rfl,rfl⟩;refine⟨_,rfl,Calm.refl,fun S=>?_⟩;simp only[ae,Qz];show Value.int .i64 (64-(Lib.bitLenAux 64 x:Int))=Value.int .i64 ((64-Lib.bitLenAux 64 x:Nat):Int)
   grind
 .cases h
def ahb(hf:O.ab n=f)(hc:∀(b:Nat) (w:yi),(callFunc f #[.float .f64 b]).run O.P w=.ok (.value (.int .u64 b)) w):
  ∀ap r,Qx ap=D5 r->dL O n ap r:=by
 intro ap r h;unfold Qx at h
 split at h
 .rename_i b;simp only[yb] at h;subst h;refine Lj Q2 ?_;intro w S args dl;obtain⟨u,rfl,h1⟩:=Db dl;simp only[ae] at h1;subst h1;rw[hf];exact⟨_,hc b w,fun S=>rfl⟩
 .cases h
def agE(hf:O.ab n=f)(hc:∀(b:Nat) (w:yi),(callFunc f #[.int .u64 b]).run O.P w=.ok (.value (.float .f64 b)) w):
  ∀ap r,Pq ap=D5 r->dL O n ap r:=by
 intro ap r h;unfold Pq at h
 split at h
 .rename_i b;simp only[yb] at h;subst h;refine Lj amG ?_;intro w S args dl;obtain⟨u,rfl,h1⟩:=Db dl;simp only[ae] at h1;subst h1;rw[hf];exact⟨_,hc b w,fun S=>rfl⟩
 .cases h
def aiT(hf:O.ab n=f)(hc:∀(x y c:Nat) (w:yi),c<=1->(callFunc f #[.int .u64 x,.int .u64 y,.int .u64 c]).run O.P w=.ok (.value (.tuple #[.int .u64 (((x+y+c)%18446744073709551616:Nat):Int),.int .u64 (((x+y+c)/18446744073709551616:Nat):Int)])) w):
  ∀ap r,nQ ap=D5 r->dL O n ap r:=by
 intro ap r h;unfold nQ at h
 split at h
 .rename_i x y c
  cases hb:(yz c 1&&(yF x 18446744073709551616&&yF y 18446744073709551616)) with
  | false=>rw[hb] at h;cases h
  | true=>
   rw[hb] at h;simp only[yr,yb] at h;subst h;simp only[ye] at hb;refine Lj (En (by simp[aS])) ?_;intro w S args dl;obtain⟨u,v,z,rfl,h1,h2,h3⟩:=abk dl;subst h1;subst h2;subst h3;rw[hf];refine⟨_,hc x y c w (yv hb.1),fun S=>?_⟩;simp only[ae,ax]
   grind
 .cases h
def aiU(hf:O.ab n=f)(hc:∀(x y b:Nat) (w:yi),b<=1->(callFunc f #[.int .u64 x,.int .u64 y,.int .u64 b]).run O.P w=.ok (.value (.tuple #[.int .u64 (((x+18446744073709551616-y-b)%18446744073709551616:Nat):Int),.int .u64 ((if x<y+b then 1 else 0:Nat):Int)])) w):
  ∀ap r,Bf ap=D5 r->dL O n ap r:=by
 intro ap r h;unfold Bf at h
 split at h
 .rename_i x y c
  cases hb:(yz c 1&&(yF x 18446744073709551616&&yF y 18446744073709551616)) with
  | false=>rw[hb] at h;cases h
  | true=>
   rw[hb] at h;simp only[yr,yb] at h;subst h;simp only[ye] at hb;have dW:=yv hb.1;have hy:=mT hb.2.2;refine Lj (En (by simp[aS])) ?_;intro w S args dl;obtain⟨u,v,z,rfl,h1,h2,h3⟩:=abk dl;subst h1;subst h2;subst h3;rw[hf];refine⟨_,hc x y c w dW,fun S=>?_⟩;simp only[ae,ax];refine⟨_,rfl,_,_,rfl,?_,_,_,rfl,?_,rfl⟩
   .grind
   .congr 1
    by_cases h:x<y+c
    .have:yz (y+c) x=ycH:=by
      cases hq:yz (y+c) x with
      | false=>rfl
      | true=>have:=yv hq;lia
     grind
    .rw [yt (by lia),yx h];rfl
 .cases h
end
end
end
end
end VE
