import Derived.RangeFuncLeaves
import Derived.OrdersIn
import Derived.LoopNIn
import Derived.RangeFuncIn
import Derived.Lib.Index
import Derived.Lib.ItoaNum
import Derived.Lib.Atoi
import Derived.Lib.BitFns
import Derived.Lib.Repeat
import Derived.Lib.SlTrimSet
import Derived.Shelf.Strings.Cut
import Derived.Shelf.Strings.Prefix
import Derived.Shelf.Small.Bits
import Derived.RowKit
import Derived.Test.YtmacbdacedfedaaGreatDoorUaa
set_option linter.all false
set_option maxRecDepth 100000
open Array renaming getD_eq_getD_getElem?->wq,getElem?_append_left->yas,getElem?_eq_getElem->uQ,getElem?_eq_none->yaF,getElem?_eq_some_iff->xC,replicate->uD
open Bool renaming and_eq_true->ye,false_eq_true->yD,not_eq_true'->vR,or_eq_false_iff->yaT,or_eq_true->uG
open Classical renaming em->uX
open Go renaming Call->yad,Calls->wB,Code->vz,Deferred->yao,Ending->yaU,Exit->uC,Func->yaH,FuncId->tS,LeavesInM->ycK,Loop->uV,Next->yaI,Obj->yan,Oper->yU,Operand->xA,Program->xx,ResultVar->ycI,RoundIn->ybt,TypeId->yA,Value->yh,World->yk
open Int renaming natCast_nonneg->yau,ofNat->ybE
open List renaming all_eq_true->ybv,countP_cons->ybw,getD_eq_getElem?_getD->xc,getElem?_cons_succ->yaG,getElem?_cons_zero->ui,getElem?_eq_getElem->xv,getElem?_eq_some_iff->xN,length_append->yJ,length_cons->yF,length_drop->we,length_map->yS,length_nil->yN,length_take->yQ,mapM_cons->uO,map_append->xg,map_cons->xb,map_reverse->yay,mem_append->xF,mem_cons->xy,mem_cons_of_mem->xM,mem_cons_self->wA,mem_range->wW,size_toArray->tp
open Nat renaming add_mul->xR,add_zero->yX,beq->yq,ble->yB,ble_eq_true_of_le->yv,blt->yL,eq_of_beq_eq_true->yg,eq_of_mul_eq_mul_right->uR,eq_or_lt_of_le->vK,eq_zero_or_pos->xq,le_of_ble_eq_true->yt,le_of_lt_succ->vT,le_refl->yp,le_trans->xo,lt_of_lt_of_le->yG,lt_or_ge->vm,lt_succ_self->yai,mul_le_mul_right->yO,strongRecOn->vP,testBit->vH,testBit_or->ybR,zero_add->yd,zero_le->tk
open Ne renaming symm->ycJ
open Option renaming bind_some->wH,getD_some->wV,map_some->wO
open Option.some renaming injEq->yc
open Prod.mk renaming injEq->yo
open UInt8 renaming ofNat->ycf,toNat->xr,toNat_ofNat'->yaY
open Option renaming some->Gp,none->Gq
open Bool renaming true->ydb,false->ydc
namespace VE
open Go (IntKind)
section
open Go
section
variable {tmps:Array yh}{seen:List Nat}
section
variable {O:bz}{m m':Mp}{S:Nat->Prop}{w:yk}{f:Nat->Option Nat}
def Hm(f:Nat->Option Nat)(m m':Mp):Prop:=∀id j,f id=Gp j->m' j=m id
mutual
def ad2{ae:Nat->Nat}(hf:Hm f m m'):∀(v:AV) (u:yh),af ae m S w v u->af ae m' S w (bq f v) u
 | .int _ _,_,h | .bool _,_,h | .aw _ _,_,h | .dh _ _ _,_,h | .str _,_,h | .kN,_,h | .ah,_,h | .iE,_,h | .jF,_,h | .undef,_,h=>by
  simpa only[bq,af] using h
 | .ptr id o,u,h=>by
  simp only[bq]
  cases hi:f id with
  | none=>simp only[af]
  | some j=>
   simp only[af] at h ⊢;rw[hf id j hi];exact h
 | .bC cs,u,h=>by
  simp only[bq];exact sL (fun _ h=>h) (fun _ _=>rfl) _ _ (by simp[aW]) h
 | .ap ex n cs,u,h=>by
  simp only[bq];exact sL (fun _ h=>h) (fun _ _=>rfl) _ _ (by simp[aW]) h
 | .cF _ _ _ _,u,h=>by simp only[af] at h
 | .aq id o n,u,h=>by
  simp only[bq]
  cases hi:f id with
  | none=>simp only[af]
  | some j=>
   simp only[af] at h ⊢;rw[hf id j hi];exact h
 | .fn (.f g) first cap,u,h=>by
  simp only[bq,af] at h ⊢;obtain⟨fi,ca,h1,h2,h3⟩:=h;exact⟨fi,ca,h1,Cx hf first _ h2,Cx hf cap _ h3⟩
 | .fn (.y l) first cap,u,h=>by
  simp only[bq]
  cases hi:f l with
  | none=>simp only[af]
  | some j=>
   simp only[af] at h ⊢;rw[hf l j hi];exact h
 | .map id,u,h=>by
  simp only[bq]
  cases hi:f id with
  | none=>simp only[af]
  | some j=>
   simp only[af] at h ⊢;rw[hf id j hi];exact h
 | .jG ks vs,u,h=>by
  simp only[bq];exact sL (fun _ h=>h) (fun _ _=>rfl) _ _ (by simp[aW]) h
 | .it id,u,h=>by
  simp only[bq]
  cases hi:f id with
  | none=>simp only[af]
  | some j=>
   simp only[af] at h ⊢;rw[hf id j hi];exact h
 | .agg cs,u,h=>by
  simp only[bq,af] at h ⊢;obtain⟨xs,h1,h2⟩:=h;exact⟨xs,h1,Cx hf cs _ h2⟩
 | .av cs,u,h=>by
  simp only[bq,af] at h ⊢;obtain⟨xs,h1,h2⟩:=h;exact⟨xs,h1,Cx hf cs _ h2⟩
def Cx{ae:Nat->Nat}(hf:Hm f m m'):∀(vs:List AV) (us:List yh),aA ae m S w vs us->aA ae m' S w (dO f vs) us
 | [],us,h=>by simpa only[dO,aA] using h
 | v::r,us,h=>by
  simp only[dO,aA] at h ⊢;have⟨u,t,h1,h2,h3⟩:=h;exact⟨u,t,h1,ad2 hf v u h2,Cx hf r t h3⟩
end
def ani{ae:Nat->Nat}(hf:Hm f m m'){cs:List AV}{b o:Nat}(h:bU ae m S w cs b o):bU ae m' S w (dO f cs) b o:=by
 have⟨us,h1,_,h3⟩:=zP cs b o h;exact GF _ us o (Cx hf cs us h1) h3
def UB:∀cs:List AV,(dO f cs).length=cs.length
 | []=>rfl
 | c::r=>by simp[dO,UB r]
def acK:∀(tm:Env) (i:Nat),ak (dw f tm) i=bq f (ak tm i)
 | [],i=>by simp[dw,ak,bq]
 | (j,v)::r,i=>by
  simp only[dw,ak]
  cases yq j i with
  | true=>rfl
  | false=>exact acK r i
def abN(tm:Env)(i:Nat):∀live:List Nat,ak (bc tm live) i=ak tm i\/ak (bc tm live) i=.undef
 | []=>.inr rfl
 | j::r=>by
  simp only[bc,ak]
  cases hb:yq j i with
  | true=>rw[yg hb];exact .inl rfl
  | false=>exact abN tm i r
def acL{tm:Env}(hf:Hm f m m')(h:bX O m S w tm tmps):bX O m' S w (dw f tm) tmps:=fun i=>by
 rw[acK];exact ad2 hf _ _ (h i)
def ape{id j:Nat}{o:Obj}{p:Pl}(hf:Hm f m m')(hm:m id=Gp p)(hj:m' j=Gp p)(h:fp O m S w id o):fp O m' S w j (gL f o):=by
 cases o with
 | cells rw pu ex sz cs=>
  have⟨q,arr,t,h1,h2,h3,h4,h5,h6,h7,h8,h9,jf⟩:=h;rw[hm] at h1;injection h1 with h1;subst h1
  cases pu with
  | true=>exact⟨p,arr,t,hj,h2,h3,h4,h5,h6,Cn (fun _ h=>h) (fun _ _=>rfl) _ _ _ (h8 rfl) rfl h7,h8,h9,jf⟩
  | false=>exact⟨p,arr,t,hj,h2,h3,by rw[yP,UB];exact h4,h5,by rw[yP,UB];exact h6,ani hf h7,by simp,h9,jf⟩
 | mp rw ks vs=>
  have⟨q,es,clock,h1,h2,h3,h4,h5,h6⟩:=h;rw[hm] at h1;injection h1 with h1;subst h1
  exact⟨p,es,clock,hj,h2,Cx hf _ _ h3,Cx hf _ _ h4,h5,h6⟩
 | si s pos=>
  have⟨q,t,h1,h2,h3,h4⟩:=h;rw[hm] at h1;injection h1 with h1;subst h1
  exact⟨p,t,hj,h2,h3,h4⟩
 | lp tm ps as_ body st pe=>
  have⟨q,l,hi,h1,h2,h3,h4,h5,h6,h7,h8⟩:=h;rw[hm] at h1;injection h1 with h1;subst h1
  exact⟨p,l,hi,hj,h2,h3,h4,h5,h6,acL hf h7,h8⟩
def abO{i:Nat}:∀{l:List Nat} {k j:Nat},dz i l k=Gp j->k<=j/\l[j-k]? =Gp i
 | [],k,j,h=>by simp[dz] at h
 | x::r,k,j,h=>by
  simp only[dz] at h
  cases hb:yq x i with
  | true=>
   simp_all
  | false=>
   rw[hb] at h;have⟨h1,h2⟩:=abO h
   grind
def qY{a b:Nat}:yL a b=ydb↔a<b:=by simp_all
def Oa{hp:Hp}{j:Nat}{o':Obj}:∀{l:List Nat} {k:Nat} {acc:Hp},ai (eF hp f l k acc) j=Gp o'->
  (∃i id o,l[i]? =Gp id/\j=k+i/\ai hp id=Gp o/\o'=gL f o)\/ai acc j=Gp o'
 | [],k,acc,h=>.inr h
 | x::r,k,acc,h=>by
  simp only[eF] at h
  cases hx:ai hp x with
  | none=>
   simp only[hx] at h;rcases Oa h with ⟨i,id,o,h1,h2,h3,h4⟩ | h
   .exact .inl ⟨i+1,id,o,by simpa using h1,by lia,h3,h4⟩
   .grind
  | some o=>
   simp only[hx] at h;rcases Oa h with ⟨i,id,o,h1,h2,h3,h4⟩ | h
   .exact .inl ⟨i+1,id,o,by simpa using h1,by lia,h3,h4⟩
   .rw [fG] at h;by_cases hc:k=j
    .simp only [hc,xP,yc] at h;exact .inl ⟨0,x,o,by simp,by lia,hx,h.symm⟩
    .grind
def Ob{base:Nat}{j:Nat}{o':Obj}:∀{hp:Hp},ai (fT base f hp) j=Gp o'->j<base/\∃o,ai hp j=Gp o/\o'=gL f o
 | [],h=>by simp[fT,ai] at h
 | (i,q)::r,h=>by
  simp only[fT] at h
  cases hb:yL i base with
  | true=>
   rw[hb] at h;simp only[yu] at h;rw[fG] at h;by_cases hc:i=j
   .simp only [hc,xP,yc] at h;exact⟨by rw[<-hc];exact qY.1 hb,q,by rw[fG];simp[hc],h.symm⟩
   .simp only [hc,xz] at h;have⟨h1,o,h2,h3⟩:=Ob h;exact⟨h1,o,by rw[fG];simp[hc,h2],h3⟩
  | false=>
   rw[hb] at h;have⟨h1,o,h2,h3⟩:=Ob h;have hc:¬i=j:=fun e=>by
    have:=qY.2 h1
    grind
   exact⟨h1,o,by rw[fG];simp[hc,h2],h3⟩
def rE(m:Mp)(base:Nat)(seen:List Nat):Mp:=fun j=>
 if j<base then m j else match seen[j-base]? with
  | some id=>if gW base seen id=Gp j then m id else Gq
  | none=>Gq
def Ua{base:Nat}{j:Nat}{p:Pl}(h:rE m base seen j=Gp p):∃id,gW base seen id=Gp j/\m id=Gp p/\(j<base->id=j):=by
 unfold rE at h
 split at h
 .rename_i hj;exact⟨j,by simp[gW,qY.2 hj],h,fun _=>rfl⟩
 .grind
def apf{base:Nat}:Hm (gW base seen) m (rE m base seen):=by
 intro id j h;have h0:=h;unfold gW at h
 cases hb:yL id base with
 | true=>
  rw[hb] at h;simp only[yu,yc] at h;subst h;simp[rE,qY.1 hb]
 | false=>
  rw[hb] at h;have⟨h1,h2⟩:=abO h
  have:¬j<base:=by lia
  simp only[rE,this,xz,h2,h0,xP]
def TG{s:St}{live:List Nat}(ht:bX O m S w s.tm tmps)(hh:aT O m S w s.hp s.ct)(hb:s.base<=s.ct):
  ∃m',bX O m' S w (bn live s).tm tmps/\aT O m' S w (bn live s).hp (bn live s).ct/\(bn live s).base=s.base/\s.base<=(bn live s).ct/\b8 m S w s.hp m' S w (bn live s).hp s.base:=by
 simp only[bn];generalize P8:reach s.hp s.base 100000 (cJ (bc s.tm live)++b7 s.base s.hp) []=seen;have hr:=apf (m:=m) (base:=s.base) (seen:=seen);have aH:∀j p,rE m s.base seen j=Gp p->j<s.base+seen.length:=by
  intro j p h;unfold rE at h
  grind
 have back:∀j o' p,ai (eF s.hp (gW s.base seen) seen s.base (fT s.base (gW s.base seen) s.hp)) j=Gp o'->rE m s.base seen j=Gp p->
   ∃id o,gW s.base seen id=Gp j/\ai s.hp id=Gp o/\m id=Gp p/\o'=gL (gW s.base seen) o:=by
  intro j o' p ho hm;have⟨id,h1,h2,h3⟩:=Ua hm;rcases Oa ho with ⟨i,YO,o,g1,g2,g3,g4⟩ | ho
  .have hj:¬j<s.base:=by lia
   have:rE m s.base seen j=if gW s.base seen YO=Gp j then m YO else Gq:=by
    simp only[rE,hj,xz,show j-s.base=i by lia,g1]
   grind
  .have ⟨g1,o,g2,g3⟩:=Ob ho
   grind
 refine⟨rE m s.base seen,?_,⟨?_,aH,?_,hh.slt,?_,?_,hh.mS,hh.gI,fun j o' ho=>(by
  rcases Oa ho with ⟨i,YO,o,g1,g2,g3,g4⟩ | ho
  .grind
  .have:=(Ob ho).1;lia)⟩,by trivial,by lia,⟨rfl,rfl,rfl,yp _,fun _ _ _=>rfl,fun _ h=>h,fun _ _=>rfl,fun _ h=>.inl h,?_,?_,fun _ r h=>⟨r,h⟩⟩⟩
 .refine acL hr (fun i=>?_);rcases abN s.tm i live with h | h
  .rw [h];exact ht i
  .rw [h];simp only[af]
 .intro j o' p ho hm;obtain⟨id,o,h1,h2,h3,rfl⟩:=back j o' p ho hm;exact ape hr h3 hm (hh.obj id o p h2 h3)
 .intro i j oi oj pi pj hi hj bN ik e;have⟨idi,o1,a1,a2,a3,_⟩:=back i oi pi hi bN;have⟨idj,o2,b1,b2,b3,_⟩:=back j oj pj hj ik
  have:=hh.inj idi idj o1 o2 pi pj a2 b2 a3 b3 e
  grind
 .intro j p hm;have⟨id,_,h2,_⟩:=Ua hm;exact hh.blt id p h2
 .intro j p hm;have⟨id,_,h2,_⟩:=Ua hm;exact hh.low id p h2
 .rintro b ⟨j,o',p,h1,h2,h3⟩;have⟨id,o,_,g2,g3,_⟩:=back j o' p h1 h2;exact .inl ⟨id,o,p,g2,g3,h3⟩
 .intro id p hid hm;simp[rE,hid,hm]
end
end
end
section
open Go
section
variable {v:AV}{an:Hp}{lo:Nat}{u:yh}
section
variable {O:bz}{m:Mp}{S:Nat->Prop}{w:yk}{hp:Hp}{ct:Nat}
def acM(hh:aT O m S w hp ct)(id:Nat):aT O m S w (cE hp id) ct:=by
 have sub:∀i o,ai (cE hp id) i=Gp o->ai hp i=Gp o:=fun i o h=>by
  rw[JZ] at h
  grind
 exact⟨fun i o p h hm=>hh.obj i o p (sub i o h) hm,hh.lt,fun i j oi oj pi pj hi hj=>hh.inj i j oi oj pi pj (sub i oi hi) (sub j oj hj),hh.slt,hh.blt,hh.low,hh.mS,hh.gI,fun i o h=>hh.aH i o (sub i o h)⟩
def ad3{id b:Nat}(h:eB m (cE hp id) b):eB m hp b:=by
 have⟨i,o,p,h1,h2,h3⟩:=h;rw[JZ] at h1;by_cases hc:id=i
 .grind
 .simp only [hc,xz] at h1;exact⟨i,o,p,h1,h2,h3⟩
def aay(hh:aT O m S w hp ct){id:Nat}{o:Obj}{p:Pl}(hg:ai hp id=Gp o)(hm:m id=Gp p):¬eB m (cE hp id) p.b:=by
 rintro⟨i,o',q,h1,h2,h3⟩;rw[JZ] at h1;by_cases hc:id=i
 .grind
 .simp only [hc,xz] at h1;exact hc (hh.inj i id o' o q p h1 hg h2 hm h3).symm
def art(hd:lG hp an){b:Nat}(h:eB m an b):eB m hp b:=by
 have⟨i,o,p,h1,h2,h3⟩:=h
 have:=hd i
 rw[h1] at this
 cases hq:ai hp i with
 | none=>rw[hq] at this;cases this
 | some q=>exact⟨i,q,p,hq,h2,h3⟩
def aa1{v':AV}{n:Nat}(hh:aT O m S w hp ct)(hf:freeze n hp v=Gp (v',an))(hv:af O.ae m S w v u):
  ∃S',aT O m S' w an ct/\(∀b,S b->S' b)/\(∀b,S' b->S b\/eB m hp b)/\aW v'=ydb/\af O.ae fh S' w v' u/\jJ O.ae S' w lo v' u []:=by
 have⟨h1,h2,h3⟩:=Ot (O:=O) hf;have⟨S',g1,g2,g3⟩:=adU hh h1 (fun id o p ho hm=>by
  have:=h2 id
  rw[ho] at this
  cases hq:ai hp id with
  | none=>rw[hq] at this;cases this
  | some q=>exact⟨q,rfl⟩) (yp _) (fun id o ho=>(by
  have:=h2 id
  rw[ho] at this
  cases hq:ai hp id with
  | none=>rw[hq] at this;cases this
  | some q=>exact hh.aH id q hq))
 have⟨k1,k2⟩:=h3 an m S' w ct cN.refl g1;have hr:=k1 u (mJ (fun _ _ h=>h) g2 (fun _ _=>rfl) v u hv);have bg:af O.ae fh S' w v' u:=sL (fun _ h=>h) (fun _ _=>rfl) v' u k2 hr;refine⟨S',g1,g2,g3,k2,bg,?_⟩
 cases v' with
 | cF _ _ _ _=>simp[aW] at k2
 | _=>exact⟨rfl,bg,k2⟩
def anj{S':Nat->Prop}{bs:List Nat}(hS:∀b,S b->S' b)(hn:∀b,b∈bs->¬S' b)(h:jJ O.ae S w lo v u bs):jJ O.ae S' w lo v u bs:=by
 cases v with
 | cF ex sz n cs=>
  obtain⟨b,o,c,arr,t,rfl,rfl,g1,g2,g3,g4,g5,g6,g7,g8,g9⟩:=h;exact⟨b,o,c,arr,t,rfl,rfl,g1,g2,g3,hn b (by simp),g5,g6,g7,Cn hS (fun _ _=>rfl) cs b o g9 rfl g8,g9⟩
 | _=>simp only[jJ] at h ⊢;exact⟨h.1,sL hS (fun _ _=>rfl) _ _ h.2.2 h.2.1,h.2.2⟩
def abQ{v':AV}{n:Nat}(hh:aT O m S w hp ct)(hf:mL n hp v=Gp (v',an))(hv:af O.ae m S w v u)(bh:∀b,eB m hp b->lo<=b):
  ∃S' bs,aT O m S' w an ct/\(∀b,S b->S' b)/\(∀b,S' b->S b\/eB m hp b)/\jJ O.ae S' w lo v' u bs/\bs.Nodup/\(∀b,b∈bs->eB m hp b/\¬eB m an b)/\(∀b,eB m an b->eB m hp b):=by
 have frozen:freeze n hp v=Gp (v',an)->∃S' bs,aT O m S' w an ct/\(∀b,S b->S' b)/\(∀b,S' b->S b\/eB m hp b)/\jJ O.ae S' w lo v' u bs/\bs.Nodup/\(∀b,b∈bs->eB m hp b/\¬eB m an b)/\(∀b,eB m an b->eB m hp b):=by
  intro hz;have⟨S',g1,g2,g3,g4,g5,g6⟩:=aa1 (lo:=lo) hh hz hv
  exact⟨S',[],g1,g2,g3,g6,by simp,by simp,fun b hb=>art (Ot (O:=O) hz).2.1 hb⟩
 unfold mL at hf
 split at hf
 .rename_i id o k
  split at hf
  .rename_i ex sz cs hg
   cases hc:yB (o+k*sz) cs.length with
   | false=>rw[hc] at hf;cases hf
   | true=>
    rw[hc] at hf;obtain⟨rfl,rfl⟩:=hf;have hle:=yt hc;obtain⟨p,c,hm,rfl,h1,h2⟩:=hv;have⟨p',arr,t,g1,g2,g3,g4,g5,g6,g7,g8,g9,g10⟩:=hh.obj id _ _ hg hm;rw[hm] at g1;injection g1 with g1
    subst g1;rw[g3] at h2;refine⟨S,[p.b],acM hh id,fun _ h=>h,fun _ h=>.inl h,?_,by simp,?_,fun b hb=>ad3 hb⟩
    .refine ⟨p.b,p.o+o,c,arr,t,rfl,rfl,h1,?_,bh _ (KB hg hm),g9 rfl,g2,?_,by lia,?_,Cm _ (Bb _ _ (g8 rfl))⟩
     .intro hx;simp only[ye] at hx;have e1:=yg hx.2;have e2:=qY.1 hx.1.2;have e3:=g6 hx.1.1
      have:c*sz=k*sz:=by lia
      exact uR e2 this
     .simp only [slice,yQ,we];lia
     .exact Cn (fun _ h=>h) (fun _ _=>rfl) _ _ _ (Cm _ (Bb _ _ (g8 rfl))) rfl (Ba _ _ _ _ (sH _ _ _ _ g7))
    .intro b hb;simp only[List.mem_singleton] at hb;subst hb;exact⟨KB hg hm,aay hh hg hm⟩
  .grind
 .grind
def aa2{lo n:Nat}:∀{vs eH:List AV} {us:List yh} {hp an:Hp} {S:Nat->Prop},aT O m S w hp ct->CD n hp vs=Gp (eH,an)->aA O.ae m S w vs us->(∀b,eB m hp b->lo<=b)->
  ∃S' bs,(∀b,S b->S' b)/\(∀b,S' b->S b\/eB m hp b)/\mv O.ae S' w lo eH us bs/\bs.Nodup/\(∀b,b∈bs->eB m hp b)/\(∀b,S' b->b<w.heap.size)
 | [],eH,us,hp,an,S,hh,hf,hv,bh=>by
  obtain⟨rfl,rfl⟩:=hf;exact⟨S,[],fun _ h=>h,fun _ h=>.inl h,by simp only[mv];exact⟨hv,by trivial⟩,by simp,by simp,hh.slt⟩
 | v::r,eH,us,hp,an,S,hh,hf,hv,bh=>by
  simp only[CD] at hf
  cases h1:mL n hp v with
  | none=>simp[h1] at hf
  | some q=>
   have⟨v1,aX⟩:=q;simp only[h1] at hf
   cases h2:CD n aX r with
   | none=>simp[h2] at hf
   | some q2=>
    simp only[h2,yc,yo] at hf;obtain⟨rfl,rfl⟩:=hf;obtain⟨u,t,rfl,fj,cW⟩:=hv;have⟨S1,b1,k1,k2,k3,k4,k5,k6,k7⟩:=abQ (lo:=lo) hh h1 fj bh;have⟨S2,b2,g1,g2,g3,g4,g5,g6⟩:=aa2 (us:=t) k1 h2 (iN (fun _ _ h=>h) k2 (fun _ _=>rfl) _ _ cW) (fun b hb=>bh b (k7 b hb));have W4:∀b,b∈b1->¬S2 b:=by
     intro b hb hs;rcases g2 b hs with h | h
     .cases v1 with
      | cF ex sz n cs=>
       simp only[jJ] at k4
       grind
      | _=>simp only[jJ] at k4;rw[k4.1] at hb;cases hb
     .grind
    refine⟨S2,b1++b2,fun b hb=>g1 b (k2 b hb),fun b hb=>?_,?_,?_,?_,g6⟩
    .grind
    .simp only [mv];exact⟨u,t,b1,b2,rfl,rfl,anj g1 W4 k4,g3⟩
    .grind
    .grind
def Ub{lo:Nat}:∀{cs:List AV} {us:List yh},aF cs=ydb->aA O.ae fh S w cs us->mv O.ae S w lo cs us []
 | [],us,_,h=>by simp only[aA] at h;exact⟨h,by trivial⟩
 | c::r,us,hp,h=>by
  obtain⟨u,t,rfl,h1,h2⟩:=h;simp only[aF,ye] at hp;refine⟨u,t,[],[],rfl,rfl,?_,Ub hp.2 h2⟩
  cases c with
  | cF _ _ _ _=>simp[aW] at hp
  | _=>exact⟨rfl,h1,hp.1⟩
def ank{r:AV}(hh:aT O m S w hp ct)(hr:result hp v=Gp r)(hv:af O.ae m S w v u)(bh:∀b,eB m hp b->lo<=b):
  ∃S',(∀b,S b->S' b)/\(∀b,S' b->S b\/eB m hp b)/\(∀b,S' b->b<w.heap.size)/\pP O.ae S' w lo r u:=by
 unfold result at hr
 split at hr
 .rename_i vs
  split at hr
  .cases h1:CD deep hp vs with
   | none=>simp[h1] at hr
   | some q=>
    simp only[h1,yc] at hr;subst hr;obtain⟨us,rfl,hv⟩:=hv;have⟨S',bs,g1,g2,g3,g4,g5,g6⟩:=aa2 (lo:=lo) hh h1 hv bh;exact⟨S',g1,g2,g6,us,bs,rfl,g3,g4⟩
  .cases h1:freeze deep hp (.av vs) with
   | none=>simp[h1] at hr
   | some q=>
    have⟨v',an⟩:=q;simp only[h1,yc] at hr;subst hr;have⟨S',g1,g2,g3,g4,g5,g6⟩:=aa1 (lo:=lo) hh h1 hv;refine⟨S',g2,g3,g1.slt,?_⟩
    cases v' with
    | av cs=>
     obtain⟨xs,rfl,g5⟩:=g5;exact⟨xs,[],rfl,Ub (by simpa[aW] using g4) g5,by simp⟩
    | _=>exact⟨[],g6⟩
 .rename_i Sq
  cases h1:mL deep hp v with
  | none=>simp[h1] at hr
  | some q=>
   have⟨v',an⟩:=q;simp only[h1,yc] at hr;subst hr;have⟨S',bs,g1,g2,g3,g4,_⟩:=abQ (lo:=lo) hh h1 hv bh;refine⟨S',g2,g3,g1.slt,?_⟩
   cases v' with
   | av cs=>
    obtain⟨rfl,h2,h3⟩:=g4;obtain⟨xs,rfl,h2⟩:=h2;exact⟨xs,[],rfl,Ub (by simpa[aW] using h3) h2,by simp⟩
   | _=>exact⟨bs,g4⟩
end
end
end
section
open Go
def WF(ro:Option Nat):Fence:={Fence.wide with round:=ro}
section
variable {O:bz}
def aeT(O:bz)(hp:Hp)(ct:Nat)(l:Nat)(xs:List AV)(v:AV)(an:Hp)(aI:Nat):Prop:=
 ∀(m:Mp) (S:Nat->Prop) (w:yk) (args:Array yh) (p:Pl),aT O m S w hp ct->m l=Gp p->aA O.ae m S w xs args.toList->
  ∃f tmps assign body,(Instr.yield p.b args).run O.P w=.ok (.round p.b f tmps assign body) w/\ybt Fence.wide 0 O.P p.b f tmps assign body w (Bh O m S w hp ct v an aI)
structure pG(O:bz)(run:cx):Prop where
 pure:∀n au r,bO O.prog O.aJ run n au=Gp r->eG O n au r
 heap:∀hp ct n au v an aI,iQ O.prog O.aJ run hp ct n au=Gp (v,an,aI)->C2 O n hp ct au v an aI
 round:∀hp ct l xs v an aI,gF run hp ct l xs=Gp (v,an,aI)->aeT O hp ct l xs v an aI
end
section
variable {P:xx}{o:yU}{a:Act}{w:yk}{ro:Option Nat}{next:Act->yk->Prop}{Q:uC->Act->yk->Prop}
def Oc{c:yad}{f:xA}(ho:o.op=.call c)(hc:c.callee=.value f){g:tS}{fi ca:Array yh}(hf:a.eval f=.func (.func g) fi ca){R:yaU->yk->Prop}(h:CF P g (fi++c.args.map a.eval++ca) w R)(hn:∀e w',R e w'->∃u,e=.returned u/\next (a.put o.dst u) w'):o.wpIn (WF ro) 0 P a w next Q:=by
 have dX:(o.semAt ro a.eval).run P w=(callFunc g (fi++c.args.map a.eval++ca)).run P w:=by
  rw[Oper.semAt_eq _ _ _ (fun c' h'=>by rw[ho] at h';cases h')];simp only[execOp,ho,resolve,hc,Deferred.ofValue,hf,Sem.run_bind,Sem.run_pure,Result.andThen_ok,invoke]
 refine⟨fun _ _=>trivial,?_⟩;show o.uponIn (WF ro) 0 P a next Q ((o.semAt ro a.eval).run P w)
 rw[dX];rcases h with ⟨h1,h2⟩ | ⟨u,w',h1,h2⟩
 .rw [h1,Oper.uponIn_enter];refine⟨fun h=>by simp[WF,Fence.wide] at h,?_⟩;have h3:CallsIn (WF ro) 0 P g (fi++c.args.map a.eval++ca) w R:=h2;refine CallsIn.mono h3 (fun e w' he=>?_);obtain⟨u,rfl,hq⟩:=hn e w' he;exact hq
 .rw [h1];have⟨u',e,hq⟩:=hn _ _ h2;injection e with e
  subst e;exact hq
def apg{c:yad}{f:xA}(ho:o.op=.call c)(hc:c.callee=.value f){l:Nat}(hf:a.eval f=.func (.yield l) #[] #[]){R:yaU->yk->Prop}{g:tS}{tmps:Array yh}{assign body:vz}(hy:(Instr.yield l (c.args.map a.eval)).run P w=.ok (.round l g tmps assign body) w)(h:ybt Fence.wide 0 P l g tmps assign body w R)(hn:∀e w',R e w'->∃u,e=.returned u/\next (a.put o.dst u) w'):o.wpIn (WF ro) 0 P a w next Q:=by
 have dX:(o.semAt ro a.eval).run P w=.ok (.round l g tmps assign body) w:=by
  rw[Oper.semAt_eq _ _ _ (fun c' h'=>by rw[ho] at h';cases h')];simp only[execOp,ho,resolve,hc,Deferred.ofValue,hf,Sem.run_bind,Sem.run_pure,Result.andThen_ok,invoke,Array.empty_append];exact hy
 refine⟨fun _ _=>trivial,?_⟩;show o.uponIn (WF ro) 0 P a next Q ((o.semAt ro a.eval).run P w)
 rw[dX,Oper.uponIn_round];refine⟨fun h=>by simp[WF,Fence.wide] at h,?_⟩;have h3:ybt (WF ro) 0 P l g tmps assign body w R:=h;refine RoundIn.mono h3 (fun e w' he=>?_);obtain⟨u,rfl,hq⟩:=hn e w' he;exact hq
def GW{n:yaI}{u:yh}{w':yk}(hd:∀c,o.op≠.defer c)(h:(execOp a.eval o).run P w=.ok n w')(hn:n=.value u\/(n=.skip/\u=undef))(hq:next (a.put o.dst u) w'):o.wpIn (WF ro) 0 P a w next Q:=by
 refine⟨fun _ _=>trivial,?_⟩;show o.uponIn (WF ro) 0 P a next Q ((o.semAt ro a.eval).run P w)
 rw[Oper.semAt_eq _ _ _ hd,h];rcases hn with rfl | ⟨rfl,rfl⟩
 .exact hq
 .exact hq
end
def oH(P:xx)(H:Hint)(q:Op)(o:yU):Prop:=
 (∃k,q=aP P H k o)\/(∃c f rs,o.op=.call c/\c.callee=.value f/\q=.j0 rs (aK H f) (iX H c.args.toList))\/
  (∃t x y sz rs,o.op=.store t x y/\cl P t=Gp sz/\q=.lP rs sz (aK H x) (aK H y))\/
  (∃k rs sz b x y,Op.di sz b x y=aP P H k o/\q=.my rs sz b x y)\/(∃k sz b x y,Op.di sz b x y=aP P H k o/\q=.rW sz b x y)\/∃k n sz z ps,Op.kj n sz z ps=aP P H k o/\q=.p9 n sz z ps
def j9:Op->Op
 | .j0 _ f xs=>.j0 [] f xs
 | .lP _ s x v=>.st s x v
 | .my _ s b x v=>.di s b x v
 | o=>o
section
variable {O:bz}{H:Hint}{m:Mp}{S:Nat->Prop}{w:yk}{tm:Env}{a:Act}{hp:Hp}{ct:Nat}{self:cx}{ro:Option Nat}{next:Act->yk->Prop}{Q:uC->Act->yk->Prop}
def Pe{o:yU}{k:Nat}{md:Md}{x:X}{xs:List X}(h:aP O.P H k o=.call md x xs)(hb:x≠.c .undef):∃c f,o.op=.call c/\c.callee=.value f/\x=aK H f/\xs=iX H c.args.toList:=by
 have nb:bad=.call md x xs->False:=fun h=>by simp only[bad,Op.call.injEq] at h;exact hb h.2.1.symm
 cases ho:o.op with
 | call c=>
  have⟨callee,args,ts⟩:=c;simp only[aP,ho] at h
  split at h
  .rename_i f;cases hm:H.mode k<;>simp only[hm,Op.call.injEq,reduceCtorEq] at h
   all_goals exact⟨_,f,rfl,rfl,h.2.1.symm,h.2.2.symm⟩
  .repeat' split at h
   all_goals first
    | exact (nb h).elim
    | (cases h;done)
    | (revert h;generalize yq _ _=bb;intro h;cases bb<;>first | exact (nb h).elim | (cases h;done))
  .exact (nb h).elim
 | binOp op t x' y ty=>
  cases op<;>simp only[aP,ho,og,pE] at h
  case eql=>
        repeat' split at h
        all_goals first
         | exact (nb h).elim
         | (cases h;done)
         | (cases bJ:(O.P.stoodInHeld t||O.P.eqGuardType O.P.depth t)<;>rw[bJ] at h<;>first | exact (nb h).elim | (cases h;done))
  case neq=>
        repeat' split at h
        all_goals first
         | exact (nb h).elim
         | (cases h;done)
         | (cases bJ:(O.P.stoodInHeld t||O.P.eqGuardType O.P.depth t)<;>rw[bJ] at h<;>first | exact (nb h).elim | (cases h;done))
  all_goals cases h
 | buildSlice t n parts=>
  simp only[aP,ho] at h
  repeat' split at h
  all_goals first
   | exact (nb h).elim
   | (cases h;done)
   | (revert h;generalize yB _ _=bb;intro h;cases bb<;>first | exact (nb h).elim | (simp only[yu] at h;cases h;done))
 | makeMap t r=>
  cases r<;>simp only[aP,ho] at h
  .repeat' split at h
   all_goals first
    | exact (nb h).elim
    | (cases h;done)
  .exact (nb h).elim
 | next x' b=>
  cases b<;>simp only[aP,ho] at h
  .exact (nb h).elim
  .cases h
 | _=>
  simp only[aP,ho] at h
  (repeat' split at h)
  all_goals first
   | contradiction
   | exact (nb h).elim
   | (cases h;done)
def amg{o:yU}{k:Nat}{r:AV×Hp×Nat}(hv:aZ O.prog O.aJ self tm hp ct (aP O.P H k o)=Gp r):∀c,o.op≠.defer c:=by
 intro c ho;simp[aP,ho,bad,aZ,eL,ay] at hv
end
end
section
open Go
section
variable {v:AV}{Hq:Hp}{sz:Nat}{eb:Obj}
section
variable {O:bz}{H:Hint}{m:Mp}{S:Nat->Prop}{w:yk}{tm:Env}{a:Act}{hp:Hp}{ct cq:Nat}
def gX(tm:Env)(hp:Hp)(ct:Nat):Op->Option (AV×Obj)
 | .di sz b x y=>Af hp ct sz b (ay tm x) (jD hp sz (ay tm y))
 | _=>Gq
def VD(O:bz)(m:Mp)(S:Nat->Prop)(w:yk)(a:Act)(ct:Nat)(o:yU)(v:AV)(b:Obj):Prop:=
 ∃u g p,(execOp a.eval o).run O.P w=.ok (.value u) (w.drew.alloc g)/\p.b=w.heap.size/\¬jC b/\
  ∀m',dl m m'->m' ct=Gp p->fp O m' S (w.drew.alloc g) ct b/\af O.ae m' S (w.drew.alloc g) v u
def aph{e:yA}{z:yh}{need cap:Nat}{cs:List AV}{us:List yh}(hh:aT O m S w hp cq)(hr:aA O.ae m S w cs us)(hl:us.length=need*sz)(hz:z.cells.size=sz)(EX:Bool)(YN:EX=ydb->aF cs=ydb)(hc:need<=cap):
  let w':=w.drew.alloc (.cells (us.toArray++Builtin.zeroCells z.cells (cap-need)) e)
  let p:Pl:=⟨w.heap.size,0,cap*sz,sz⟩
  ∀m',dl m m'->m' ct=Gp p->fp O m' S w' ct (.cells ydb EX ydc sz cs):=by
 intro w' p m' hm hi;have aR:gm S w w':=fun b hb=>by
  have:=hh.slt b hb
  exact RowKit.Below.heap_alloc w.drew _ b (by simpa using this)
 have kv:w'.heap[w.heap.size]? =Gp (.cells (us.toArray++Builtin.zeroCells z.cells (cap-need)) e (0,0)):=heap_alloc_new w.drew _;have fY:=iz _ _ hr;refine⟨p,_,e,hi,kv,rfl,?_,?_,by simp,?_,YN,?_,by simp⟩
 .show cs.length<=cap*sz
  rw[<-fY,hl];exact yO _ hc
 .show 0+cap*sz<=_
  rw[Array.size_append,tp,size_zeroCells,hz,hl,<-xR];rw[yd];exact yO _ (by lia)
 .refine Oq kv cs us 0 (iN hm (fun _ h=>h) aR _ _ hr) (fun j u hj=>?_);rw[yd,yas (by rw[tp];exact (xN.1 hj).1),List.getElem?_toArray]
  exact hj
 .intro _ hS
  have:=hh.slt _ hS
  simp[p] at this
def ol{a b:Nat}(h:yL a b=ydb):a<b:=yt h
def api{o:yU}{b':yA}{t u e:yA}{by':Nat}{z:AV}{x y:xA}(hH:fo O H)(ht:bX O m S w tm a.tmps)(hh:aT O m S w hp cq)(dX:(execOp a.eval o).run O.P w=((do pure (.value (<-Builtin.append_ #[t,u] b' #[a.eval x,a.eval y])):Sem yaI)).run O.P w)(AM:O.P.underlying t=Gp (.slice e))(hu:(∃e',O.P.underlying u=Gp (.slice e'))\/O.P.underlying u=Gp .string)(hs:cl O.P e=Gp sz)(hb:AG O.P e=Gp by')(hz:mQ O.P e=Gp z)(zp:(cellsOf z).length=sz)(hv:gX tm hp ct (.di sz by' (aK H x) (aK H y))=Gp (v,eb)):VD O m S w a ct o v eb:=by
 simp only[gX] at hv;obtain⟨ti,zv,zt,rfl,rfl,M3,rfl⟩:=adX hs hb hz;have aM:∀u' w',(Builtin.append_ #[t,u] b' #[a.eval x,a.eval y]).run O.P w=.ok u' w'->(execOp a.eval o).run O.P w=.ok (.value u') w':=fun u' w' h=>by
  rw[dX,Sem.run_bind,h];rfl
 have FR:zv.cells.size=ti.size:=by
  have:=iz _ _ (Eg (ae:=O.ae) (m:=m) (S:=S) (w:=w) zv)
  rw[<-zp,<-this];simp
 cases oG:jD hp ti.size (ay tm (aK H y)) with
 | none=>simp[oG,Af] at hv
 | some q=>
  have⟨n,new⟩:=q;rw[oG] at hv;have⟨news,lU,dF⟩:=abJ hh (bY hH ht y) oG;have M4:=iz _ _ lU;have rx:=bY hH ht x;cases hx:ay tm (aK H x)<;>rw[hx] at hv rx<;>simp only[Af,reduceCtorEq] at hv
  rename_i id o0 k;simp only[af] at rx;have⟨p,c,hm,ex,h1,h2⟩:=rx
  split at hv
  case h_2=>cases hv
  rename_i bZ pu zz cs hg
  cases hc:(yq zz ti.size&&(yL 0 n&&(yB (k+n) room&&(yB ((k+n)*ti.bytes) room&&(yq (o0+k*ti.size) cs.length&&yL 0 ti.size))))) with
  | false=>rw[hc] at hv;cases hv
  | true=>
   rw[hc] at hv;simp only[yu,yc,yo] at hv;obtain⟨rfl,rfl⟩:=hv;simp only[ye] at hc;have c0:=yg hc.1;have c5:=ol hc.2.1;have c1:=yt hc.2.2.1;have c2:=yt hc.2.2.2.1;have c3:=yg hc.2.2.2.2.1;have c4:=ol hc.2.2.2.2.2;simp only[room] at c1 c2;have⟨p',arr,t',g1,g2,g3,g4,g5,g6,g7,g8,g9,g10⟩:=hh.obj id _ _ hg hm;rw[hm] at g1;injection g1 with g1
   subst g1;subst c0;rw[g3] at h2;have B7:=g6 rfl;have gP:c=k:=by
    have:c*ti.size=k*ti.size:=by lia
    exact uR c4 this
   subst gP;have Ik:bU O.ae m S w (slice o0 (c*ti.size) cs) p.b (p.o+o0):=Ba _ _ _ _ (sH _ _ _ _ g7);have⟨mT,f1,f2,f3⟩:=zP _ _ _ Ik;have QF:(slice o0 (c*ti.size) cs).length=c*ti.size:=by simp only[slice,yQ,we];lia
   have nR:(pu&&aF new)=ydb->aF (slice o0 (c*ti.size) cs++new)=ydb:=fun h=>by
    simp only[ye] at h;exact Eh (Cm _ (Bb _ _ (g8 h.1))) h.2
   have M5:Src O.P w ti.size c mT (.slice (Gp ⟨p.b,p.o+o0,Gq⟩) c c):=Gz (by lia) (fun j u hj=>by rw[oh];exact f3 j u hj)
   have hr:=NU (P:=O.P) (ty:=b') (w:=w) AM hu zt M3 rfl M5 dF (by lia) c1 c2;have ll:=grownCap_ge w (c+n) c e;have kv:=aph (ct:=ct) (e:=e) (z:=zv) (cap:=grownCap w (c+n) c e) hh (mH f1 lU) (need:=c+n) (sz:=ti.size) (by rw[yJ,f2,QF,dF.2.1,xR]) FR (pu&&aF new) nR ll;exact⟨_,_,⟨w.heap.size,0,grownCap w (c+n) c e*ti.size,ti.size⟩,aM _ _ (by rw[ex];exact hr),rfl,by simp[jC],fun m' hle hi=>⟨kv m' hle hi,by simp only[af];exact⟨_,_,hi,rfl,ll,by simp⟩⟩⟩
def amh(hl:cN hp Hq){q:Nat×List AV}(h:nA hp sz v=Gp q):nA Hq sz v=Gp q:=by
 cases v<;>simp only[nA,reduceCtorEq] at h ⊢
 .exact h
 .exact h
 .rename_i id o n
  cases hg:ai hp id with
  | none=>simp[hg] at h
  | some ob=>
   cases ob<;>simp only[hg,reduceCtorEq] at h
   obtain⟨o',h1,r,rfl,_⟩:=hl id _ hg;simp only[h1];exact h
def anl(hl:cN hp Hq){q:Nat×List AV}(h:jD hp sz v=Gp q):jD Hq sz v=Gp q:=by
 by_cases hs:∃b,v=.str b
 .obtain ⟨b,rfl⟩:=hs;exact h
 .have e:∀hp:Hp,jD hp sz v=nA hp sz v:=fun hp=>by
   cases v<;>first
    | rfl
    | exact absurd ⟨_,rfl⟩ hs
  rw[e] at h ⊢;exact amh hl h
def apj(hl:cN hp Hq){b:Nat}{x y:AV}(h:Af hp ct sz b x (jD hp sz y)=Gp (v,eb)):Af Hq ct sz b x (jD Hq sz y)=Gp (v,eb):=by
 cases hs:jD hp sz y with
 | none=>rw[hs] at h;simp[Af] at h
 | some q=>
  rw[anl hl hs];rw[hs] at h;have⟨n,new⟩:=q;cases x<;>simp only[Af,reduceCtorEq] at h ⊢
  rename_i id o k
  cases hg:ai hp id with
  | none=>simp[hg] at h
  | some ob=>
   cases ob with
   | cells bZ pu ex z cs=>
    cases ex with
    | false=>simp[hg] at h
    | true=>
     obtain⟨o',h1,r,rfl,_⟩:=hl id _ hg;simp only[hg] at h;simp only[h1];exact h
   | _=>simp[hg] at h
def aua{o:yU}{k:Nat}(hH:fo O H)(ht:bX O m S w tm a.tmps)(hh:aT O m S w hp cq)(hv:gX tm hp ct (aP O.P H k o)=Gp (v,eb)):VD O m S w a ct o v eb:=by
 have jq:∀{r:AV×Obj},gX tm hp ct bad=Gp r->False:=fun h=>by simp[bad,gX] at h
 cases ho:o.op with
 | call c=>
  obtain⟨callee,args,ts⟩:=c;simp only[aP,ho] at hv
  split at hv
  .cases FO:H.mode k<;>simp[FO,gX] at hv
  .rename_i _ b
   split at hv
   .rename_i x y t u eN nh;obtain⟨al⟩:=args;obtain⟨tl⟩:=ts;simp only at eN nh;subst eN;subst nh;obtain⟨cs,dX⟩:=A8 (O:=O) (w:=w) (a:=a) ho;have EZ:(execOp a.eval o).run O.P w=((do pure (.value (<-Builtin.append_ #[t,u] o.type #[a.eval x,a.eval y])):Sem yaI)).run O.P w:=by
     rw[dX];simp[builtin]
    have key:∀{z:AV} {sz by':Nat} {e:yA},O.P.underlying t=Gp (.slice e)->((∃e',O.P.underlying u=Gp (.slice e'))\/O.P.underlying u=Gp .string)->cl O.P e=Gp sz->AG O.P e=Gp by'->mQ O.P e=Gp z->
      gX tm hp ct (bif yq (cellsOf z).length sz then .di sz by' (aK H x) (aK H y) else bad)=Gp (v,eb)->VD O m S w a ct o v eb:=by
     intro z sz by' e h1 h2 h3 h4 h5 h
     cases hb:yq (cellsOf z).length sz with
     | false=>rw[hb] at h;exact (jq h).elim
     | true=>
      rw[hb] at h;exact api hH ht hh EZ h1 h2 h3 h4 h5 (yg hb) h
    split at hv
    .rename_i e e' h1 h2
     split at hv
     .rename_i sz by' z h3 h4 h5
      exact key h1 (.inl ⟨_,h2⟩) h3 h4 h5 hv
     .exact (jq hv).elim
    .rename_i e h1 h2
     split at hv
     .rename_i sz by' z h3 h4 h5
      exact key h1 (.inr h2) h3 h4 h5 hv
     .exact (jq hv).elim
    .exact (jq hv).elim
   .repeat' split at hv
    all_goals simp[gX,bad] at hv
   .repeat' split at hv
    all_goals simp[gX,bad] at hv
   .simp [gX] at hv
   .simp [gX] at hv
   .simp [gX] at hv
   .simp [gX] at hv
   .simp [gX] at hv
   .exact (jq hv).elim
  .exact (jq hv).elim
 | next x b=>
  cases b<;>simp[aP,ho,gX,bad] at hv
 | binOp op t x y ty=>
  cases op<;>simp only[aP,ho,og,pE] at hv
  case eql=>
        repeat' split at hv
        all_goals first
         | (simp[gX,bad] at hv;done)
         | (cases hb:(O.P.stoodInHeld t||O.P.eqGuardType O.P.depth t)<;>rw[hb] at hv<;>simp[gX,bad] at hv)
  case neq=>
        repeat' split at hv
        all_goals first
         | (simp[gX,bad] at hv;done)
         | (cases hb:(O.P.stoodInHeld t||O.P.eqGuardType O.P.depth t)<;>rw[hb] at hv<;>simp[gX,bad] at hv)
  all_goals simp[gX] at hv
 | buildSlice t n parts=>
  simp only[aP,ho] at hv
  repeat' split at hv
  all_goals first
   | (simp[gX,bad] at hv;done)
   | (
     revert hv;generalize yB _ _=bb;intro hv;cases bb<;>simp[gX,bad] at hv
     try (split at hv<;>simp[gX,bad] at hv))
 | makeMap t r=>
  cases r<;>simp only[aP,ho] at hv
  .repeat' split at hv
   all_goals simp[gX,bad] at hv
  .exact (jq hv).elim
 | _=>
  simp only[aP,ho] at hv
  (repeat' split at hv)
  all_goals first
   | contradiction
   | (simp[gX,bad] at hv;done)
end
end
end
section
open Go
section
variable {aX:Hp}{cap first au z:List AV}{g k n sz:Nat}{P:xx}
section
variable {O:bz}{H:Hint}{m:Mp}{S:Nat->Prop}{w:yk}{tm:Env}{a:Act}{hp an Hq:Hp}{ct aI cH:Nat}{self:cx}{ro:Option Nat}{next:Act->yk->Prop}{Q:uC->Act->yk->Prop}
def abR{g:yan}{p:Pl}{S':Nat->Prop}{base:Nat}(hh:aT O m S w Hq cH)(hi:m ct=Gq)(hb:p.b=w.heap.size)(h1:∀b,S b->S' b)(h2:∀b,S' b->S b\/b=w.heap.size):
  b8 m S w Hq (fJ m ct p) S' (w.alloc g) Hq base where
 os:=rfl
 tape:=rfl
 output:=rfl
 size:=by simp
 same b hb _:=alloc_old hb
 sub:=h1
 still b hb:=alloc_old (hh.slt b hb)
 new b hb:=(h2 b hb).imp (fun h=>h) (fun h=>.inr (by lia))
 own b hb:=by
  have⟨i,o,q,g1,g2,g3⟩:=hb;by_cases hc:i=ct
  .subst hc;rw[dL] at g2
   grind
  .rw [eE hc] at g2;exact .inl ⟨i,o,q,g1,g2,g3⟩
 old i q _ h:=jX hi i q h
 loops b r hb:=⟨r,(alloc_old (xC.1 hb).1).trans hb⟩
def aaz{P9:List AV}{us:List yh}(hz:cB deep hp P9=Gp (au,aX))(hl:cN aX Hq)(hh:aT O m S w Hq cH)(hr:aA O.ae m S w P9 us):aA O.ae fh S w au us/\aF au=ydb:=by
 have⟨_,_,h3⟩:=TD (O:=O) hz;have⟨k1,k2⟩:=h3 Hq m S w cH hl hh;exact⟨Bf (fun _ h=>h) (fun _ _=>rfl) _ _ k2 (k1 us hr),k2⟩
def Vd(hh:aT O m S w Hq cH):C1 O w:=⟨hh.mS,hh.gI⟩
def ON(hH:fo O H)(ht:bX O m S w tm a.tmps){f:xA}{args:Array xA}(hf:ay tm (aK H f)=.fn (.f g) first cap):
  ∃fi ca:Array yh,a.eval f=.func (.func (O.ae g)) fi ca/\aA O.ae m S w (first++(dN tm (iX H args.toList)++cap)) (fi++args.map a.eval++ca).toList:=by
 have rf:=bY hH ht f;rw[hf] at rf;have⟨fi,ca,h1,h2,h3⟩:=rf;refine⟨fi,ca,h1,?_⟩
 have:=mH h2 (mH (Ez hH ht args.toList) h3)
 simp_all
def ami(hC:pG O self)(hH:fo O H){o:yU}{c:yad}{f:xA}(ho:o.op=.call c)(jT:c.callee=.value f){r:AV}(hf:ay tm (aK H f)=.fn (.f g) first cap)(hz:cB deep hp (first++(dN tm (iX H c.args.toList)++cap))=Gp (au,aX))(hr:bO O.prog O.aJ self g au=Gp r)(hl:cN aX Hq)(ht:bX O m S w tm a.tmps)(hh:aT O m S w Hq cH)(hn:∀u S' w',aT O m S' w' Hq cH->af O.ae m S' w' (shut r) u->b8 m S w Hq m S' w' Hq cH->next (a.put o.dst u) w'):o.wpIn (WF ro) 0 O.P a w next Q:=by
 have⟨fi,ca,h1,h2⟩:=ON hH ht (args:=c.args) hf;have⟨h3,h4⟩:=aaz hz hl hh h2;refine Oc ho jT h1 (hC.pure g au r hr w S _ (Vd hh) hh.slt h3 h4) ?_;rintro e w' ⟨u,S',rfl,hw,g1,g2,g3,g4⟩;refine⟨u,rfl,?_⟩;have⟨S2,k1,k2,k3⟩:=abM g4 m;have hS:∀b,S b->S2 b:=fun b hb=>k1 b (g1 b hb)
 have DE:∀b,S2 b->S b\/w.heap.size<=b:=fun b hb=>(k2 b hb).elim (g2 b) (fun h=>.inr h.1)
 have hl:∀b,S2 b->b<w'.heap.size:=fun b hb=>(k2 b hb).elim (g3 b) (fun h=>h.2)
 exact hn u S2 w' (Ct hh hw hS DE hl) k3 (Bj hh hw hS DE)
def anm(hC:pG O self)(hH:fo O H){o:yU}{c:yad}{f:xA}(ho:o.op=.call c)(jT:c.callee=.value f){r:AV}(hf:ay tm (aK H f)=.fn (.f g) first cap)(hz:cB deep hp (first++(dN tm (iX H c.args.toList)++cap))=Gp (au,aX))(hr:bO O.prog O.aJ self g au=Gp r)(hl:cN (own aX ct r).2.1 Hq)(ij:(own aX ct r).2.2<=cH)(aH:∀id o,ai hp id=Gp o->id<ct)(AQ:∀id,ct<=id->id<(own aX ct r).2.2->m id=Gq)(ht:bX O m S w tm a.tmps)(hh:aT O m S w Hq cH)(hn:∀u m' S' w',aT O m' S' w' Hq cH->dl m m'->(∀id p,m' id=Gp p->m id=Gp p\/(ct<=id/\id<(own aX ct r).2.2))->af O.ae m' S' w' (own aX ct r).1 u->b8 m S w Hq m' S' w' Hq cH->next (a.put o.dst u) w'):
  o.wpIn (WF ro) 0 O.P a w next Q:=by
 have⟨fi,ca,h1,h2⟩:=ON hH ht (args:=c.args) hf;have⟨z1,z2,z3⟩:=TD (O:=O) hz;have W5:∀id o,ai aX id=Gp o->id<ct:=fun id o h=>by
  have:=z2 id
  rw[h] at this
  cases hq:ai hp id with
  | none=>rw[hq] at this;cases this
  | some q=>exact aH id q hq
 have aub:∀id o,ai aX id=Gp o->ai (own aX ct r).2.1 id=Gp o:=fun id o h=>by
  cases r with
  | av vs=>exact Pd W5 id o h
  | _=>exact Vc W5 id o h
 have qh:cN aX Hq:=fun id o h=>hl id o (aub id o h)
 have⟨h3,h4⟩:=aaz hz qh hh h2;refine Oc ho jT h1 (hC.pure g au r hr w S _ (Vd hh) hh.slt h3 h4) ?_;rintro e w' ⟨u,S',rfl,hw,g1,g2,g3,g4⟩;refine⟨u,rfl,?_⟩;have DF:=Ct hh hw g1 g2 g3;have DB:=Bj (base:=cH) hh hw g1 g2;have⟨m',S2,k1,k2,k3,k4,k5,k6⟩:=at7 (lo:=w.heap.size) DF hl ij W5 AQ g4 hh.gI (fun j q hq=>hh.blt j q hq);refine hn u m' S2 w' k1 k2 (fun id p h=>(k3 id p h).imp (fun h=>h) (fun h=>⟨h.1,h.2.1⟩)) k4 ⟨hw.os,hw.tape,hw.output,hw.size,fun b hb _=>hw.same b hb,fun b hb=>k5 b (g1 b hb),fun b hb=>hw.same b (hh.slt b hb),?_,?_,fun i q _ h=>k2 i q h,DB.loops⟩
 .grind
 .rintro b ⟨i,ob,q,q1,q2,q3⟩;rcases k3 i q q2 with h | h
  .exact .inl ⟨i,ob,q,q1,h,q3⟩
  .grind
def amj{H:Hint}{o:yU}{b:Nat}{x y:X}(hk:Op.rW sz b x y=aP P H k o):False:=by
 cases ho:o.op with
 | call c=>
  have⟨callee,args,ts⟩:=c;simp only[aP,ho] at hk
  split at hk
  .rename_i f;cases hm:H.mode k<;>simp only[hm,reduceCtorEq] at hk
  .repeat' split at hk
   all_goals first
    | (cases hk;done)
    | (simp only[bad] at hk;cases hk;done)
    | (revert hk;generalize yq _ _=bb;intro hk;cases bb<;>simp[bad] at hk)
  .simp only [bad] at hk;cases hk
 | binOp op t x' y ty=>
  cases op<;>simp only[aP,ho,og,pE] at hk
  case eql=>
        repeat' split at hk
        all_goals first
         | (cases hk;done)
         | (simp only[bad] at hk;cases hk;done)
         | (cases bJ:(P.stoodInHeld t||P.eqGuardType P.depth t)<;>rw[bJ] at hk<;>simp[bad] at hk)
  case neq=>
        repeat' split at hk
        all_goals first
         | (cases hk;done)
         | (simp only[bad] at hk;cases hk;done)
         | (cases bJ:(P.stoodInHeld t||P.eqGuardType P.depth t)<;>rw[bJ] at hk<;>simp[bad] at hk)
  all_goals cases hk
 | buildSlice t n parts=>
  simp only[aP,ho] at hk
  repeat' split at hk
  all_goals first
   | (cases hk;done)
   | (simp only[bad] at hk;cases hk;done)
   | (revert hk;generalize yB _ _=bb;intro hk;cases bb<;>simp[bad] at hk)
 | makeMap t r=>
  cases r<;>simp only[aP,ho] at hk
  .repeat' split at hk
   all_goals first
    | (cases hk;done)
    | (simp only[bad] at hk;cases hk;done)
  .simp only [bad] at hk;cases hk
 | next x' b=>
  cases b<;>simp only[aP,ho] at hk
  .simp only [bad] at hk;cases hk
  .cases hk
 | _=>
  simp only[aP,ho] at hk
  (repeat' split at hk)
  all_goals first
   | contradiction
   | (cases hk;done)
   | (simp only[bad] at hk;cases hk;done)
def auc{H:Hint}{o:yU}{b:Nat}{x y:X}(hq:oH P H (.rW sz b x y) o):∃k,Op.di sz b x y=aP P H k o:=by
 rcases hq with ⟨k,hk⟩ | ⟨_,_,_,_,_,h3⟩ | ⟨_,_,_,_,_,_,_,h3⟩ | ⟨_,_,_,_,_,_,_,h3⟩ | ⟨k,nT,b',x',y',h1,h3⟩ | ⟨_,_,_,_,_,_,h3⟩
 .exact (amj hk).elim
 .cases h3
 .cases h3
 .cases h3
 .simp only [Op.rW.injEq] at h3;obtain⟨rfl,rfl,rfl,rfl⟩:=h3;exact⟨k,h1⟩
 .cases h3
def amk{H:Hint}{o:yU}{ps:List (Nat×Nat×X)}(hk:Op.p9 n sz z ps=aP P H k o):False:=by
 cases ho:o.op with
 | call c=>
  obtain⟨callee,args,ts⟩:=c;simp only[aP,ho] at hk
  split at hk
  .rename_i f;cases hm:H.mode k<;>simp only[hm,reduceCtorEq] at hk
  .repeat' split at hk
   all_goals first
    | (cases hk;done)
    | (simp only[bad] at hk;cases hk;done)
    | (revert hk;generalize yq _ _=bb;intro hk;cases bb<;>simp[bad] at hk)
  .simp only [bad] at hk;cases hk
 | binOp op t x' y ty=>
  cases op<;>simp only[aP,ho,og,pE] at hk
  case eql=>
        repeat' split at hk
        all_goals first
         | (cases hk;done)
         | (simp only[bad] at hk;cases hk;done)
         | (cases bJ:(P.stoodInHeld t||P.eqGuardType P.depth t)<;>rw[bJ] at hk<;>simp[bad] at hk)
  case neq=>
        repeat' split at hk
        all_goals first
         | (cases hk;done)
         | (simp only[bad] at hk;cases hk;done)
         | (cases bJ:(P.stoodInHeld t||P.eqGuardType P.depth t)<;>rw[bJ] at hk<;>simp[bad] at hk)
  all_goals cases hk
 | buildSlice t n parts=>
  simp only[aP,ho] at hk
  repeat' split at hk
  all_goals first
   | (cases hk;done)
   | (simp only[bad] at hk;cases hk;done)
   | (revert hk;generalize yB _ _=bb;intro hk;cases bb<;>simp[bad] at hk)
 | makeMap t r=>
  cases r<;>simp only[aP,ho] at hk
  .repeat' split at hk
   all_goals first
    | (cases hk;done)
    | (simp only[bad] at hk;cases hk;done)
  .simp only [bad] at hk;cases hk
 | next x' b=>
  cases b<;>simp only[aP,ho] at hk
  .simp only [bad] at hk;cases hk
  .cases hk
 | _=>
  simp only[aP,ho] at hk
  (repeat' split at hk)
  all_goals first
   | contradiction
   | (cases hk;done)
   | (simp only[bad] at hk;cases hk;done)
def aud{H:Hint}{o:yU}{ps:List (Nat×Nat×X)}(hq:oH P H (.p9 n sz z ps) o):∃k,Op.kj n sz z ps=aP P H k o:=by
 rcases hq with ⟨k,hk⟩ | ⟨_,_,_,_,_,h3⟩ | ⟨_,_,_,_,_,_,_,h3⟩ | ⟨_,_,_,_,_,_,_,h3⟩ | ⟨_,_,_,_,_,_,h3⟩ | ⟨k,n',nT,z',ps',h1,h3⟩
 .exact (amk hk).elim
 .cases h3
 .cases h3
 .cases h3
 .cases h3
 .simp only [Op.p9.injEq] at h3;obtain⟨rfl,rfl,rfl,rfl⟩:=h3;exact⟨k,h1⟩
def aue(hH:fo O H)(ht:bX O m S w tm a.tmps)(hh:aT O m S w hp ct){o:yU}{ps:List (Nat×Nat×X)}{v:AV}{hp0:Hp}(iI:Op.kj n sz z ps=aP O.P H k o)(hv:bj tm hp0 (.p9 n sz z ps)=Gp v):
  ∃u g,(execOp a.eval o).run O.P w=.ok (.value u) (w.alloc g)/\∀S':Nat->Prop,(∀b,S b->S' b)->S' w.heap.size->af O.ae m S' (w.alloc g) v u:=by
 simp only[bj] at hv
 cases hf:fill tm z ps with
 | none=>simp[hf] at hv
 | some cs=>
  simp only[hf] at hv
  cases hc:(yq cs.length (n*sz)&&(yL 0 sz&&aF cs)) with
  | false=>rw[hc] at hv;cases hv
  | true=>
   rw[hc] at hv;simp only[yu,yc] at hv;subst hv;simp only[ye] at hc;obtain⟨c1,c2,c3⟩:=hc;have c1':=yg c1;have c2':=qY.1 c2;have hi:m ct=Gq:=by
    cases hm:m ct with
    | none=>rfl
    | some p=>have:=hh.lt ct p hm;omega
   have cm:cI tm hp ct (aP O.P H k o)=Gp (.aq ct 0 n,.cells ydb ydb ydb sz cs):=by
    rw[<-iI];simp only[cI,hf,c1,yu,c3]
   obtain⟨u,g,p,h1,h2,h3,h4⟩:=adV hH ht hh cm;refine⟨u,g,h1,fun S' hS hSn=>?_⟩;obtain⟨ho,hr⟩:=h4 (fJ m ct p) (jX hi) dL;simp only[fp] at ho;obtain⟨q,arr,t,g1,g2,g3,g4,g5,g6,g7,g8,_⟩:=ho;rw[dL] at g1;injection g1 with g1
   subst g1;simp only[af,dL,yc] at hr;obtain⟨q,c,rfl,rfl,r3,r4⟩:=hr;simp only[af];refine .inl ⟨_,_,c,rfl,r3,fun _=>?_,.inr (by rw[h2];exact hSn),c3,?_⟩
   .have e:=g6 trivial;rw[<-e,c1',g3,yd] at r4;exact uR c2' r4
   .rw [yX];exact Cn hS (fun _ _=>rfl) cs _ _ c3 rfl g7
def quiet_step(hC:pG O self)(hH:fo O H){o:yU}{q:Op}{v:AV}(hk:bl q<=1)(hq:oH O.P H q o)(hd:∀c,o.op≠.defer c)(hv:aZ O.prog O.aJ self tm hp ct q=Gp (v,an,aI))(hl:cN an Hq)(ij:aI<=cH)(aH:∀id o,ai hp id=Gp o->id<ct)(AQ:∀id,ct<=id->id<aI->m id=Gq)(ht:bX O m S w tm a.tmps)(hh:aT O m S w Hq cH)(hn:∀u m' S' w',aT O m' S' w' Hq cH->dl m m'->(∀id p,m' id=Gp p->m id=Gp p\/(ct<=id/\id<aI))->af O.ae m' S' w' v u->b8 m S w Hq m' S' w' Hq cH->next (a.put o.dst u) w'):
  o.wpIn (WF ro) 0 O.P a w next Q:=by
 by_cases AR:∃sz b x y,q=.rW sz b x y
 .obtain ⟨sz,b,x,y,rfl⟩:=AR;obtain⟨k,iI⟩:=auc hq;simp only[aZ] at hv
  cases hm:Af hp ct sz b (ay tm x) (jD hp sz (ay tm y)) with
  | none=>simp[hm] at hv
  | some r=>
   obtain⟨v1,eb⟩:=r;simp only[hm,yc,yo] at hv;obtain⟨rfl,rfl,rfl⟩:=hv;have lR:cN hp Hq:=fun id o' jQ=>hl id o' (by
    rw[fG,yr (by have:=aH id o' jQ;omega)];exact jQ)
   have bg:gX tm Hq ct (aP O.P H k o)=Gp (v1,eb):=by rw[<-iI];exact apj lR hm
   have hi:=AQ ct (yp _) (yai _);obtain⟨u,g,p,h1,h2,h3,h4⟩:=aua hH ht hh bg;have M6:Calm w w.drew:=⟨rfl,rfl,rfl,yp _,fun _ _=>rfl⟩;have jg:=Ct hh M6 (S':=S) (fun _ h=>h) (fun _ h=>.inl h) hh.slt;have r5:b8 m S w Hq m S w.drew Hq cH:=Bj hh M6 (fun _ h=>h) (fun _ h=>.inl h);obtain⟨S',k1,k2,k3⟩:=Uz (i:=ct) (g:=g) (p:=p) jg hi ij h2 (fun o' jQ=>by
    obtain⟨YJ,g1,g2⟩:=hl ct eb (by rw[fG];simp)
    rw[jQ] at g1;injection g1 with g1
    subst g1
    have:=Tt g2 dL (h4 _ (jX hi) dL).1 h3
    rwa[h2] at this)
   refine GW hd h1 (.inl rfl) (hn u _ S' _ k1 (jX hi) (fun id q hq=>?_) (mJ (fun _ _ h=>h) k2 (fun _ _=>rfl) _ _ (h4 _ (jX hi) dL).2) (r5.trans (abR jg hi h2 k2 k3)));by_cases hc:id=ct
   .exact .inr (by omega)
   .rw [eE hc] at hq;exact .inl hq
 by_cases DG:∃n sz z ps,q=.p9 n sz z ps
 .obtain ⟨n,sz,z,ps,rfl⟩:=DG;obtain⟨k,iI⟩:=aud hq;simp only[aZ] at hv
  cases hm:bj tm hp (.p9 n sz z ps) with
  | none=>simp[hm] at hv
  | some r=>
   simp only[hm,yc,yo] at hv;obtain⟨rfl,rfl,rfl⟩:=hv;obtain⟨u,g,h1,h2⟩:=aue hH ht hh iI hm;have M6:Calm w (w.alloc g):=⟨rfl,rfl,rfl,by simp,fun b hb=>alloc_old hb⟩
   let S':Nat->Prop:=fun b=>S b\/b=w.heap.size
   have hS:∀b,S b->S' b:=fun b hb=>.inl hb
   have DE:∀b,S' b->S b\/w.heap.size<=b:=fun b hb=>hb.imp id (fun e=>by omega)
   have zx:∀b,S' b->b<(w.alloc g).heap.size:=fun b hb=>by
    rcases hb with hb | hb
    .have:=hh.slt b hb;simp;omega
    .subst hb;simp
   refine GW hd h1 (.inl rfl) (hn u m S' _ (Ct hh M6 hS DE zx) dl.refl (fun _ _ h=>.inl h) (h2 S' hS (.inr rfl)) (Bj hh M6 hS DE))
 have iI:∃k,q=aP O.P H k o:=by
  rcases hq with h | ⟨c,f,rs,_,_,rfl⟩ | ⟨_,_,_,_,_,_,_,rfl⟩ | ⟨_,_,_,_,_,_,_,rfl⟩ | ⟨_,_,_,_,_,_,h⟩ | ⟨_,_,_,_,_,_,h⟩
  .exact h
  .simp [bl] at hk
  .simp [bl] at hk
  .simp [bl] at hk
  .exact (AR ⟨_,_,_,_,h⟩).elim
  .exact (DG ⟨_,_,_,_,h⟩).elim
 obtain⟨k,hq⟩:=iI;have read:∀{v:AV},bj tm hp q=Gp v->cN hp Hq->(∀u m' S' w',aT O m' S' w' Hq cH->dl m m'->(∀id p,m' id=Gp p->m id=Gp p\/(ct<=id/\id<aI))->af O.ae m' S' w' v u->b8 m S w Hq m' S' w' Hq cH->next (a.put o.dst u) w')->o.wpIn (WF ro) 0 O.P a w next Q:=by
  intro v hr hl hn;have bg:=anf hl hr;rw[hq] at bg;obtain⟨u,h1,h2⟩:=adT hH ht hh bg;exact GW hd h1 (.inl rfl) (hn u m S w hh dl.refl (fun _ _ h=>.inl h) h2 b8.refl)
 have makes:∀{v:AV} {b:Obj},cI tm hp ct q=Gp (v,b)->cN ((ct,b)::hp) Hq->ct+1<=cH->m ct=Gq->(∀u m' S' w',aT O m' S' w' Hq cH->dl m m'->(∀id p,m' id=Gp p->m id=Gp p\/(ct<=id/\id<ct+1))->af O.ae m' S' w' v u->b8 m S w Hq m' S' w' Hq cH->next (a.put o.dst u) w')->o.wpIn (WF ro) 0 O.P a w next Q:=by
  intro v b hr hl hc hi hn;rw[hq] at hr;have bg:cI tm Hq ct (aP O.P H k o)=Gp (v,b):=by rw[<-hr];exact JN (fun _ _=>rfl)
  obtain⟨u,g,p,h1,h2,h3,h4⟩:=adV hH ht hh bg;obtain⟨S',k1,k2,k3⟩:=Uz (i:=ct) (g:=g) (p:=p) hh hi hc h2 (fun o' jQ=>by
   obtain⟨YJ,g1,g2⟩:=hl ct b (by rw[fG];simp)
   rw[jQ] at g1;injection g1 with g1
   subst g1
   have:=Tt g2 dL (h4 _ (jX hi) dL).1 h3
   rwa[h2] at this)
  refine GW hd h1 (.inl rfl) (hn u _ S' _ k1 (jX hi) (fun id q hq=>?_) (mJ (fun _ _ h=>h) k2 (fun _ _=>rfl) _ _ (h4 _ (jX hi) dL).2) (abR hh hi h2 k2 k3));by_cases hc:id=ct
  .exact .inr (by omega)
  .rw [eE hc] at hq;exact .inl hq
 have cm:∀{q:Op},(match cI tm hp ct q with | some (v,b)=>Gp (v,(ct,b)::hp,ct+1) | none=>(Gq:iH))=Gp (v,an,aI)->∃b,cI tm hp ct q=Gp (v,b)/\an=(ct,b)::hp/\aI=ct+1:=by
  intro q h
  cases hm:cI tm hp ct q with
  | none=>simp[hm] at h
  | some r=>
   obtain⟨v1,b⟩:=r;simp only[hm,yc,yo] at h;obtain⟨rfl,rfl,rfl⟩:=h;exact⟨b,rfl,rfl,rfl⟩
 have fN:∀{q:Op},(match bj tm hp q with | some v=>Gp (v,hp,ct) | none=>(Gq:iH))=Gp (v,an,aI)->bj tm hp q=Gp v/\an=hp/\aI=ct:=by
  intro q h
  cases hm:bj tm hp q with
  | none=>simp[hm] at h
  | some r=>
   simp only[hm,yc,yo] at h;obtain⟨rfl,rfl,rfl⟩:=h;exact⟨rfl,rfl,rfl⟩
 have KC:(∃b,cI tm hp ct q=Gp (v,b)/\an=(ct,b)::hp/\aI=ct+1)->o.wpIn (WF ro) 0 O.P a w next Q:=by
  rintro⟨b,h1,rfl,rfl⟩;exact makes h1 hl ij (AQ ct (yp _) (yai _)) hn
 have auf:(bj tm hp q=Gp v/\an=hp/\aI=ct)->o.wpIn (WF ro) 0 O.P a w next Q:=by
  rintro⟨h1,rfl,rfl⟩;exact read h1 hl hn
 cases q with
 | st _ _ _=>simp[bl] at hk
 | rT _ _ _ _=>simp[bl] at hk
 | rV _=>simp[bl] at hk
 | di _ _ _ _=>simp[bl] at hk
 | rX _ _ _=>simp[bl] at hk
 | j0 _ _ _=>simp[bl] at hk
 | lP _ _ _ _=>simp[bl] at hk
 | my _ _ _ _ _=>simp[bl] at hk
 | rW sz b x y=>exact (AR ⟨sz,b,x,y,rfl⟩).elim
 | box s x=>exact KC (cm (by simp only[aZ] at hv;exact hv))
 | kj n s z ps=>exact KC (cm (by simp only[aZ] at hv;exact hv))
 | p8 s b z x y=>exact KC (cm (by simp only[aZ] at hv;exact hv))
 | BY=>exact KC (cm (by simp only[aZ] at hv;exact hv))
 | rU x=>exact KC (cm (by simp only[aZ] at hv;exact hv))
 | call md x xs=>
  cases md with
  | heap=>simp[bl] at hk
  | dyn=>simp[bl] at hk
  | pure=>
   simp only[aZ,eL] at hv
   split at hv
   .rename_i g first cap hx
    (try simp only at hv)
    cases hz:cB deep hp (first++(dN tm xs++cap)) with
    | none=>simp[hz] at hv
    | some z=>
     obtain⟨au,aX⟩:=z;simp only[hz] at hv
     cases hr:bO O.prog O.aJ self g au with
     | none=>simp[hr] at hv
     | some r=>
      simp only[hr,yc,yo] at hv;obtain⟨rfl,rfl,rfl⟩:=hv;obtain⟨c,f,ho,jT,rfl,rfl⟩:=Pe hq.symm (by rintro rfl;simp[ay] at hx);exact ami hC hH ho jT hx hz hr hl ht hh (fun u S' w' h1 h2 h3=>hn u m S' w' h1 dl.refl (fun _ _ h=>.inl h) h2 h3)
   .simp at hv
   .cases hv
  | own=>
   simp only[aZ,eL] at hv
   split at hv
   .rename_i g first cap hx
    (try simp only at hv)
    cases hz:cB deep hp (first++(dN tm xs++cap)) with
    | none=>simp[hz] at hv
    | some z=>
     obtain⟨au,aX⟩:=z;simp only[hz] at hv
     cases hr:bO O.prog O.aJ self g au with
     | none=>simp[hr] at hv
     | some r=>
      simp only[hr,yc] at hv;obtain⟨c,f,ho,jT,rfl,rfl⟩:=Pe hq.symm (by rintro rfl;simp[ay] at hx);have e1:v=(own aX ct r).1:=by rw[hv]
      have e2:an=(own aX ct r).2.1:=by rw[hv]
      have e3:aI=(own aX ct r).2.2:=by rw[hv]
      subst e1;subst e2;subst e3;exact anm hC hH ho jT hx hz hr hl ij aH AQ ht hh hn
   .simp at hv
   .cases hv
 | _=>exact auf (fN (by simp only[aZ] at hv;exact hv))
end
end
end
section
open Go
section
variable {r v:AV}{b sz:Nat}{q:Op}{P:xx}{x y:X}
section
variable {O:bz}{H:Hint}{m:Mp}{S:Nat->Prop}{w:yk}{tm:Env}{a:Act}{hp an:Hp}{ct aI:Nat}{self:cx}{ro:Option Nat}{next:Act->yk->Prop}{Q:uC->Act->yk->Prop}
def b8.Aq{m':Mp}{S':Nat->Prop}{w':yk}{b':Nat}(h:b8 m S w hp m' S' w' an b)(hb:b'<=b):b8 m S w hp m' S' w' an b':=
 ⟨h.os,h.tape,h.output,h.size,h.same,h.sub,h.still,h.new,h.own,fun i q hi hq=>h.old i q (by lia) hq,h.loops⟩
def aug{hp:Hp}{ct:Nat}(aH:∀id o,ai hp id=Gp o->id<ct):∀id o,ai (own hp ct r).2.1 id=Gp o->id<(own hp ct r).2.2:=by
 have hL:∀(vs:List AV) (hp:Hp) (ct:Nat),(∀id o,ai hp id=Gp o->id<ct)->∀id o,ai (lf hp ct vs).2.1 id=Gp o->id<(lf hp ct vs).2.2:=by
  intro vs
  induction vs with
  | nil=>intro hp ct h id o ho;exact h id o ho
  | cons v r ih=>intro hp ct h id o ho;exact ih _ _ (Kl h) id o ho
 cases r with
 | av vs=>exact hL vs hp ct aH
 | _=>exact Kl aH
def auh{hp:Hp}{ct:Nat}(aH:∀id o,ai hp id=Gp o->id<ct):∀id o,ai hp id=Gp o->ai (own hp ct r).2.1 id=Gp o:=by
 cases r with
 | av vs=>exact Pd aH
 | _=>exact Vc aH
def aui{hp:Hp}{ct:Nat}:ct<=(own hp ct r).2.2:=by
 cases r with
 | av vs=>exact Pc
 | _=>exact Pb
def apk{hp:Hp}{ct:Nat}:∀id o,ai (own hp ct r).2.1 id=Gp o->id<ct->ai hp id=Gp o:=by
 have h1:∀(hp:Hp) (ct:Nat) (r:AV) id o,ai (fI hp ct r).2.1 id=Gp o->id<ct->ai hp id=Gp o:=by
  intro hp ct r id o h hc;cases r<;>simp only[fI] at h<;>try exact h
  rw[fG,yr (by lia)] at h;exact h
 have hL:∀(vs:List AV) (hp:Hp) (ct:Nat) id o,ai (lf hp ct vs).2.1 id=Gp o->id<ct->ai hp id=Gp o:=by
  intro vs
  induction vs with
  | nil=>intro hp ct id o ho _;exact ho
  | cons v r ih=>intro hp ct id o ho hc;exact h1 hp ct v id o (ih _ _ id o ho (by have:=Pb (hp:=hp) (ct:=ct) (r:=v);lia)) hc
 cases r with
 | av vs=>exact hL vs hp ct
 | _=>exact h1 hp ct _
structure jE(hp:Hp)(ct:Nat)(an:Hp)(aI:Nat):Prop where
 le:cN hp an
 r7:ct<=aI
 lt:∀id o,ai an id=Gp o->id<aI
 back:∀id o,ai an id=Gp o->id<ct->∃o',ai hp id=Gp o'
def jE.refl(aH:∀id o,ai hp id=Gp o->id<ct):jE hp ct hp ct:=⟨cN.refl,yp _,aH,fun _ o h _=>⟨o,h⟩⟩
def jE.trans{LL:Hp}{ahp:Nat}(h:jE hp ct an aI)(k:jE an aI LL ahp):jE hp ct LL ahp:=
 ⟨h.le.trans k.le,xo h.r7 k.r7,k.lt,fun id o ho hi=>let ⟨o1,h1⟩:=k.back id o ho (yG hi h.r7);h.back id o1 h1 hi⟩
def abS{P9 au:List AV}{aX:Hp}(hz:cB deep hp P9=Gp (au,aX))(aH:∀id o,ai hp id=Gp o->id<ct):jE hp ct aX ct:=by
 have⟨z1,z2,_⟩:=TD (O:=⟨default,⟨fun _=>Gq,fun _=>Gq⟩,fun _=>0,fun _=>Gq,fun _=>⟨0,fun _=>Gq,fun _=>[],fun _=>Gq,fun _=>.pure,fun _=>[]⟩,default⟩) hz;have hb:∀id o,ai aX id=Gp o->∃o',ai hp id=Gp o':=fun id o h=>by
  have:=z2 id
  rw[h] at this
  cases hq:ai hp id with
  | none=>rw[hq] at this;cases this
  | some q=>exact⟨q,rfl⟩
 exact⟨z1,yp _,fun id o h=>let ⟨o',h'⟩:=hb id o h;aH id o' h',fun id o h _=>hb id o h⟩
def ann(aH:∀id o,ai hp id=Gp o->id<ct):jE hp ct (own hp ct r).2.1 (own hp ct r).2.2:=
 ⟨fun id o h=>⟨o,auh aH id o h,jR.refl o⟩,aui,aug aH,fun id o h hi=>⟨o,apk id o h hi⟩⟩
def aaA{P:aE}{L:Lib}(hk:bl q<=1)(hv:aZ P L self tm hp ct q=Gp (v,an,aI))(aH:∀id o,ai hp id=Gp o->id<ct):jE hp ct an aI:=by
 have cm:∀{q:Op},(match cI tm hp ct q with | some (v,b)=>Gp (v,(ct,b)::hp,ct+1) | none=>(Gq:iH))=Gp (v,an,aI)->jE hp ct an aI:=by
  intro q h
  cases hm:cI tm hp ct q with
  | none=>simp[hm] at h
  | some r=>
   have⟨v1,b⟩:=r;simp only[hm,yc,yo] at h;obtain⟨rfl,rfl,rfl⟩:=h;refine⟨fun id o ho=>⟨o,?_,jR.refl o⟩,by lia,fun id o ho=>?_,fun id o ho hi=>?_⟩
   .rw [fG,yr (by have:=aH id o ho;lia)];exact ho
   .rw [fG] at ho;by_cases hc:ct=id
    .lia
    .simp only [hc,xz] at ho;have:=aH id o ho;lia
   .rw [fG,yr (by lia)] at ho;exact⟨o,ho⟩
 have fN:∀{q:Op},(match bj tm hp q with | some v=>Gp (v,hp,ct) | none=>(Gq:iH))=Gp (v,an,aI)->jE hp ct an aI:=by
  intro q h
  cases hm:bj tm hp q with
  | none=>simp[hm] at h
  | some r=>
   simp only[hm,yc,yo] at h;obtain⟨rfl,rfl,rfl⟩:=h;exact jE.refl aH
 cases bP:q with
 | st _ _ _=>simp[bP,bl] at hk
 | rT _ _ _ _=>simp[bP,bl] at hk
 | rV _=>simp[bP,bl] at hk
 | di _ _ _ _=>simp[bP,bl] at hk
 | rX _ _ _=>simp[bP,bl] at hk
 | j0 _ _ _=>simp[bP,bl] at hk
 | lP _ _ _ _=>simp[bP,bl] at hk
 | my _ _ _ _ _=>simp[bP,bl] at hk
 | rW sz b x y=>
  rw[bP] at hv;simp only[aZ] at hv
  cases hm:Af hp ct sz b (ay tm x) (jD hp sz (ay tm y)) with
  | none=>simp[hm] at hv
  | some r=>
   have⟨v1,b⟩:=r;simp only[hm,yc,yo] at hv;obtain⟨rfl,rfl,rfl⟩:=hv;refine⟨fun id o ho=>⟨o,?_,jR.refl o⟩,by lia,fun id o ho=>?_,fun id o ho hi=>?_⟩
   .rw [fG,yr (by have:=aH id o ho;lia)];exact ho
   .rw [fG] at ho;by_cases hc:ct=id
    .lia
    .simp only [hc,xz] at ho;have:=aH id o ho;lia
   .rw [fG,yr (by lia)] at ho;exact⟨o,ho⟩
 | box s x=>exact cm (q:=q) (by rw[bP] at hv ⊢;simp only[aZ] at hv;exact hv)
 | kj n s z ps=>exact cm (q:=q) (by rw[bP] at hv ⊢;simp only[aZ] at hv;exact hv)
 | p8 s b z x y=>exact cm (q:=q) (by rw[bP] at hv ⊢;simp only[aZ] at hv;exact hv)
 | BY=>exact cm (q:=q) (by rw[bP] at hv ⊢;simp only[aZ] at hv;exact hv)
 | rU x=>exact cm (q:=q) (by rw[bP] at hv ⊢;simp only[aZ] at hv;exact hv)
 | call md x xs=>
  subst bP;simp only[aZ,eL] at hv
  split at hv
  .rename_i g first cap hx
   cases md with
   | heap=>simp[bl] at hk
   | dyn=>simp[bl] at hk
   | pure=>
    simp only at hv
    cases hz:cB deep hp (first++(dN tm xs++cap)) with
    | none=>simp[hz] at hv
    | some z=>
     have⟨au,aX⟩:=z;simp only[hz] at hv
     cases hr:bO P L self g au with
     | none=>simp[hr] at hv
     | some r=>
      simp only[hr,yc,yo] at hv;obtain⟨rfl,rfl,rfl⟩:=hv;exact abS hz aH
   | own=>
    simp only at hv
    cases hz:cB deep hp (first++(dN tm xs++cap)) with
    | none=>simp[hz] at hv
    | some z=>
     have⟨au,aX⟩:=z;simp only[hz] at hv
     cases hr:bO P L self g au with
     | none=>simp[hr] at hv
     | some r=>
      simp only[hr,yc] at hv;have e2:an=(own aX ct r).2.1:=by rw[hv]
      have e3:aI=(own aX ct r).2.2:=by rw[hv]
      subst e2;subst e3;have g1:=abS hz aH;exact g1.trans (ann g1.lt)
  .cases md with
   | heap=>simp[bl] at hk
   | dyn=>simp[bl] at hk
   | _=>simp at hv
  .cases hv
 | _=>exact fN (q:=q) (by rw[bP] at hv ⊢;simp only[aZ] at hv;exact hv)
def OO(hh:aT O m S w hp ct)(hg:jE hp ct an aI):∃S',aT O m S' w an aI/\(∀b,S b->S' b)/\(∀b,S' b->S b\/eB m hp b)/\∀base,b8 m S w hp m S' w an base:=by
 have hd:∀id o p,ai an id=Gp o->m id=Gp p->∃o',ai hp id=Gp o':=fun id o p h hm=>hg.back id o h (hh.lt id p hm)
 have⟨S',g1,g2,g3⟩:=adU hh hg.le hd hg.r7 hg.lt;refine⟨S',g1,g2,g3,fun base=>⟨rfl,rfl,rfl,yp _,fun _ _ _=>rfl,g2,fun _ _=>rfl,fun b hb=>(g3 b hb).imp (fun h=>h) .inl,?_,fun _ _ _ h=>h,fun _ r h=>⟨r,h⟩⟩⟩;rintro b ⟨i,o,p,h1,h2,h3⟩;have⟨o',h4⟩:=hd i o p h1 h2;exact .inl ⟨i,o',p,h4,h2,h3⟩
def apl(hv:cu tm hp ct q=Gp (v,an,aI)):ct<=aI:=by
 cases q<;>simp only[cu,reduceCtorEq] at hv
 all_goals
  grind
def UC{H:Hint}{o:yU}{rs:List (Nat×Bool×Nat)}{xs:List X}(hq:oH P H (.j0 rs x xs) o):∃c f,o.op=.call c/\c.callee=.value f/\x=aK H f/\xs=iX H c.args.toList:=by
 rcases hq with ⟨k,hk⟩ | ⟨c,f,rs',h1,h2,h3⟩ | ⟨_,_,_,_,_,_,_,h3⟩ | ⟨_,_,_,_,_,_,_,h3⟩ | ⟨_,_,_,_,_,_,h3⟩ | ⟨_,_,_,_,_,_,h3⟩
 .cases ho:o.op with
  | call c=>
   obtain⟨callee,args,ts⟩:=c;simp only[aP,ho] at hk
   split at hk
   .rename_i f;cases hm:H.mode k<;>simp only[hm,Op.j0.injEq,reduceCtorEq] at hk
    exact⟨_,f,rfl,rfl,hk.2.1,hk.2.2⟩
   .repeat' split at hk
    all_goals first
     | (cases hk;done)
     | (simp only[bad] at hk;cases hk;done)
     | (revert hk;generalize yq _ _=bb;intro hk;cases bb<;>simp[bad] at hk)
   .simp only [bad] at hk;cases hk
  | binOp op t x' y ty=>
   cases op<;>simp only[aP,ho,og,pE] at hk
   case eql=>
         repeat' split at hk
         all_goals first
          | (cases hk;done)
          | (simp only[bad] at hk;cases hk;done)
          | (cases bJ:(P.stoodInHeld t||P.eqGuardType P.depth t)<;>rw[bJ] at hk<;>simp[bad] at hk)
   case neq=>
         repeat' split at hk
         all_goals first
          | (cases hk;done)
          | (simp only[bad] at hk;cases hk;done)
          | (cases bJ:(P.stoodInHeld t||P.eqGuardType P.depth t)<;>rw[bJ] at hk<;>simp[bad] at hk)
   all_goals cases hk
  | buildSlice t n parts=>
   simp only[aP,ho] at hk
   repeat' split at hk
   all_goals first
    | (cases hk;done)
    | (simp only[bad] at hk;cases hk;done)
    | (revert hk;generalize yB _ _=bb;intro hk;cases bb<;>simp[bad] at hk)
  | makeMap t r=>
   cases r<;>simp only[aP,ho] at hk
   .repeat' split at hk
    all_goals first
     | (cases hk;done)
     | (simp only[bad] at hk;cases hk;done)
   .simp only [bad] at hk;cases hk
  | next x' b=>
   cases b<;>simp only[aP,ho] at hk
   .simp only [bad] at hk;cases hk
   .cases hk
  | _=>
   simp only[aP,ho] at hk
   (repeat' split at hk)
   all_goals first
    | contradiction
    | (cases hk;done)
    | (simp only[bad] at hk;cases hk;done)
 .simp only [Op.j0.injEq] at h3;exact⟨c,f,h1,h2,h3.2.1,h3.2.2⟩
 .cases h3
 .cases h3
 .cases h3
 .cases h3
def aml{H:Hint}{o:yU}{k:Nat}{rs:List (Nat×Bool×Nat)}(hk:Op.lP rs sz x y=aP P H k o):False:=by
 cases ho:o.op with
 | call c=>
  have⟨callee,args,ts⟩:=c;simp only[aP,ho] at hk
  split at hk
  .grind
  .repeat' split at hk
   all_goals first
    | (cases hk;done)
    | (simp only[bad] at hk;cases hk;done)
    | (revert hk;generalize yq _ _=bb;intro hk;cases bb<;>simp[bad] at hk)
  .simp only [bad] at hk;cases hk
 | binOp op t x' y ty=>
  cases op<;>simp only[aP,ho,og,pE] at hk
  case eql=>
        repeat' split at hk
        all_goals first
         | (cases hk;done)
         | (simp only[bad] at hk;cases hk;done)
         | (cases bJ:(P.stoodInHeld t||P.eqGuardType P.depth t)<;>rw[bJ] at hk<;>simp[bad] at hk)
  case neq=>
        repeat' split at hk
        all_goals first
         | (cases hk;done)
         | (simp only[bad] at hk;cases hk;done)
         | (cases bJ:(P.stoodInHeld t||P.eqGuardType P.depth t)<;>rw[bJ] at hk<;>simp[bad] at hk)
  all_goals cases hk
 | buildSlice t n parts=>
  simp only[aP,ho] at hk
  repeat' split at hk
  all_goals first
   | (cases hk;done)
   | (simp only[bad] at hk;cases hk;done)
   | (revert hk;generalize yB _ _=bb;intro hk;cases bb<;>simp[bad] at hk)
 | makeMap t r=>
  cases r<;>simp only[aP,ho] at hk
  .repeat' split at hk
   all_goals first
    | (cases hk;done)
    | (simp only[bad] at hk;cases hk;done)
  .simp only [bad] at hk;cases hk
 | next x' b=>
  cases b<;>simp only[aP,ho] at hk
  .simp only [bad] at hk;cases hk
  .cases hk
 | _=>
  simp only[aP,ho] at hk
  (repeat' split at hk)
  all_goals first
   | contradiction
   | (cases hk;done)
   | (simp only[bad] at hk;cases hk;done)
def amm{H:Hint}{o:yU}{k:Nat}{rs:List (Nat×Bool×Nat)}(hk:Op.my rs sz b x y=aP P H k o):False:=by
 cases ho:o.op with
 | call c=>
  have⟨callee,args,ts⟩:=c;simp only[aP,ho] at hk
  split at hk
  .rename_i f;cases hm:H.mode k<;>simp only[hm,reduceCtorEq] at hk
  .repeat' split at hk
   all_goals first
    | (cases hk;done)
    | (simp only[bad] at hk;cases hk;done)
    | (revert hk;generalize yq _ _=bb;intro hk;cases bb<;>simp[bad] at hk)
  .simp only [bad] at hk;cases hk
 | binOp op t x' y ty=>
  cases op<;>simp only[aP,ho,og,pE] at hk
  case eql=>
        repeat' split at hk
        all_goals first
         | (cases hk;done)
         | (simp only[bad] at hk;cases hk;done)
         | (cases bJ:(P.stoodInHeld t||P.eqGuardType P.depth t)<;>rw[bJ] at hk<;>simp[bad] at hk)
  case neq=>
        repeat' split at hk
        all_goals first
         | (cases hk;done)
         | (simp only[bad] at hk;cases hk;done)
         | (cases bJ:(P.stoodInHeld t||P.eqGuardType P.depth t)<;>rw[bJ] at hk<;>simp[bad] at hk)
  all_goals cases hk
 | buildSlice t n parts=>
  simp only[aP,ho] at hk
  repeat' split at hk
  all_goals first
   | (cases hk;done)
   | (simp only[bad] at hk;cases hk;done)
   | (revert hk;generalize yB _ _=bb;intro hk;cases bb<;>simp[bad] at hk)
 | makeMap t r=>
  cases r<;>simp only[aP,ho] at hk
  .repeat' split at hk
   all_goals first
    | (cases hk;done)
    | (simp only[bad] at hk;cases hk;done)
  .simp only [bad] at hk;cases hk
 | next x' b=>
  cases b<;>simp only[aP,ho] at hk
  .simp only [bad] at hk;cases hk
  .cases hk
 | _=>
  simp only[aP,ho] at hk
  (repeat' split at hk)
  all_goals first
   | contradiction
   | (cases hk;done)
   | (simp only[bad] at hk;cases hk;done)
def ax4{H:Hint}{o:yU}(hq:oH P H (.st sz x y) o):∃t x' y',o.op=.store t x' y'/\cl P t=Gp sz/\x=aK H x'/\y=aK H y':=by
 obtain⟨k,hk⟩:∃k,Op.st sz x y=aP P H k o:=by
  rcases hq with h | ⟨_,_,_,_,_,h⟩ | ⟨_,_,_,_,_,_,_,h⟩ | ⟨_,_,_,_,_,_,_,h⟩ | ⟨_,_,_,_,_,_,h⟩ | ⟨_,_,_,_,_,_,h⟩
  .exact h
  .cases h
  .cases h
  .cases h
  .cases h
  .cases h
 cases ho:o.op with
 | call c=>
  obtain⟨callee,args,ts⟩:=c;simp only[aP,ho] at hk
  split at hk
  .rename_i f;cases hm:H.mode k<;>simp only[hm,reduceCtorEq] at hk
  .repeat' split at hk
   all_goals first
    | (cases hk;done)
    | (simp only[bad] at hk;cases hk;done)
    | (revert hk;generalize yq _ _=bb;intro hk;cases bb<;>simp[bad] at hk)
  .simp only [bad] at hk;cases hk
 | binOp op t x' y ty=>
  cases op<;>simp only[aP,ho,og,pE] at hk
  case eql=>
        repeat' split at hk
        all_goals first
         | (cases hk;done)
         | (simp only[bad] at hk;cases hk;done)
         | (cases bJ:(P.stoodInHeld t||P.eqGuardType P.depth t)<;>rw[bJ] at hk<;>simp[bad] at hk)
  case neq=>
        repeat' split at hk
        all_goals first
         | (cases hk;done)
         | (simp only[bad] at hk;cases hk;done)
         | (cases bJ:(P.stoodInHeld t||P.eqGuardType P.depth t)<;>rw[bJ] at hk<;>simp[bad] at hk)
  all_goals cases hk
 | buildSlice t n parts=>
  simp only[aP,ho] at hk
  repeat' split at hk
  all_goals first
   | (cases hk;done)
   | (simp only[bad] at hk;cases hk;done)
   | (revert hk;generalize yB _ _=bb;intro hk;cases bb<;>simp[bad] at hk)
 | makeMap t r=>
  cases r<;>simp only[aP,ho] at hk
  .repeat' split at hk
   all_goals first
    | (cases hk;done)
    | (simp only[bad] at hk;cases hk;done)
  .simp only [bad] at hk;cases hk
 | next x' b=>
  cases b<;>simp only[aP,ho] at hk
  .simp only [bad] at hk;cases hk
  .cases hk
 | store t x' y'=>
  simp only[aP,ho] at hk
  split at hk
  .rename_i s hs;simp only[Op.st.injEq] at hk;obtain⟨rfl,rfl,rfl⟩:=hk;exact⟨t,x',y',rfl,hs,rfl,rfl⟩
  .simp only [bad] at hk;cases hk
 | _=>
  simp only[aP,ho] at hk
  (repeat' split at hk)
  all_goals first
   | contradiction
   | (cases hk;done)
   | (simp only[bad] at hk;cases hk;done)
def aeU{H:Hint}{o:yU}{rs:List (Nat×Bool×Nat)}(hq:oH P H (.lP rs sz x y) o):∃t x' y',o.op=.store t x' y'/\cl P t=Gp sz/\x=aK H x'/\y=aK H y':=by
 rcases hq with ⟨k,hk⟩ | ⟨_,_,_,_,_,h3⟩ | ⟨t,x',y',nT,rs',h1,h2,h3⟩ | ⟨_,_,_,_,_,_,_,h3⟩ | ⟨_,_,_,_,_,_,h3⟩ | ⟨_,_,_,_,_,_,h3⟩
 .exact (aml hk).elim
 .cases h3
 .simp only [Op.lP.injEq] at h3;obtain⟨_,rfl,rfl,rfl⟩:=h3;exact⟨t,x',y',h1,h2,rfl,rfl⟩
 .cases h3
 .cases h3
 .cases h3
def aeV{H:Hint}{o:yU}{rs:List (Nat×Bool×Nat)}(hq:oH P H (.my rs sz b x y) o):∃k,Op.di sz b x y=aP P H k o:=by
 rcases hq with ⟨k,hk⟩ | ⟨_,_,_,_,_,h3⟩ | ⟨_,_,_,_,_,_,_,h3⟩ | ⟨k,rs',nT,b',x',y',h1,h3⟩ | ⟨_,_,_,_,_,_,h3⟩ | ⟨_,_,_,_,_,_,h3⟩
 .exact (amm hk).elim
 .cases h3
 .cases h3
 .simp only [Op.my.injEq] at h3;obtain⟨_,rfl,rfl,rfl,rfl⟩:=h3;exact⟨k,h1⟩
 .cases h3
 .cases h3
def aeW{H:Hint}{o:yU}(hq:oH P H (.di sz b x y) o):∃k,Op.di sz b x y=aP P H k o:=by
 rcases hq with h | ⟨_,_,_,_,_,h3⟩ | ⟨_,_,_,_,_,_,_,h3⟩ | ⟨_,_,_,_,_,_,_,h3⟩ | ⟨_,_,_,_,_,_,h3⟩ | ⟨_,_,_,_,_,_,h3⟩
 .exact h
 .cases h3
 .cases h3
 .cases h3
 .cases h3
 .cases h3
def amn{H:Hint}{o:yU}(hq:oH P H q o):oH P H (j9 q) o:=by
 cases h:q with
 | j0 rs f xs=>
  subst h;have⟨c,f',g1,g2,g3,g4⟩:=UC hq;exact .inr (.inl ⟨c,f',[],g1,g2,by rw[g3,g4];rfl⟩)
 | lP rs sz x y=>
  subst h;have⟨t,x',y',g1,g2,g3,g4⟩:=aeU hq;refine .inl ⟨0,?_⟩;simp only[j9,aP,g1,g2,g3,g4]
 | my rs sz b x y=>
  subst h;exact .inl (aeV hq)
 | _=>subst h;exact hq
def acN(hC:pG O self)(hH:fo O H){o:yU}(hq:oH O.P H q o)(hd:∀c,o.op≠.defer c)(hv:aZ O.prog O.aJ self tm hp ct q=Gp (v,an,aI))(ht:bX O m S w tm a.tmps)(hh:aT O m S w hp ct)(hn:∀u m' S' w',aT O m' S' w' an aI->ct<=aI->af O.ae m' S' w' v u->b8 m S w hp m' S' w' an ct->next (a.put o.dst u) w'):o.wpIn (WF ro) 0 O.P a w next Q:=by
 have quiet:bl q<=1->o.wpIn (WF ro) 0 O.P a w next Q:=by
  intro hk;have hg:=aaA hk hv hh.aH;obtain⟨S1,g1,g2,g3,g4⟩:=OO hh hg;refine quiet_step hC hH hk hq hd hv cN.refl (yp _) hh.aH (fun id h1 h2=>?_) (Cs (fun _ _ h=>h) g2 (fun _ _=>rfl) ht) g1 (fun u m' S' w' k1 k2 k3 k4 k5=>hn u m' S' w' k1 hg.r7 k4 ((g4 ct).trans (k5.Aq hg.r7)))
  cases hm:m id with
  | none=>rfl
  | some p=>have:=hh.lt id p hm;omega
 have VF:∀{q':Op},(∃k,q'=aP O.P H k o)->cu tm hp ct q'=Gp (v,an,aI)->o.wpIn (WF ro) 0 O.P a w next Q:=by
  intro q' iI hw;obtain⟨k,rfl⟩:=iI;obtain⟨n,u,w',m',S',h1,h2,h3,h4,h5,h6⟩:=ars hH ht hh hw;exact GW hd h1 h2 (hn u m' S' w' h3 (apl hw) h4 h6)
 have write:cu tm hp ct q=Gp (v,an,aI)->o.wpIn (WF ro) 0 O.P a w next Q:=by
  intro hw;refine VF ?_ hw;rcases hq with h | ⟨c,f,rs,_,_,rfl⟩ | ⟨_,_,_,_,_,_,_,rfl⟩ | ⟨_,_,_,_,_,_,_,rfl⟩ | ⟨_,_,_,_,_,_,rfl⟩ | ⟨_,_,_,_,_,_,rfl⟩
  .exact h
  .simp [cu] at hw
  .simp [cu] at hw
  .simp [cu] at hw
  .simp [cu] at hw
  .simp [cu] at hw
 have heap:∀{c:yad} {f:xA} {g:Nat} {first cap:List AV},o.op=.call c->c.callee=.value f->ay tm (aK H f)=.fn (.f g) first cap->
   iQ O.prog O.aJ self hp ct g (first++(dN tm (iX H c.args.toList)++cap))=Gp (v,an,aI)->o.wpIn (WF ro) 0 O.P a w next Q:=by
  intro c f g first cap ho jT hx he;obtain⟨fi,ca,h1,h2⟩:=ON hH ht (args:=c.args) hx;refine Oc ho jT h1 (hC.heap _ _ _ _ _ _ _ he m S w _ hh h2) ?_;rintro e w' ⟨u,m',S',rfl,k1,k2,k3,k4⟩;exact⟨u,rfl,hn u m' S' w' k1 k2 k3 k4⟩
 have round:∀{c:yad} {f:xA} {l:Nat} {x y:List AV},o.op=.call c->c.callee=.value f->ay tm (aK H f)=.fn (.y l) x y->
   gF self hp ct l (dN tm (iX H c.args.toList))=Gp (v,an,aI)->o.wpIn (WF ro) 0 O.P a w next Q:=by
  intro c f l x y ho jT hx he;have rf:=bY hH ht f;rw[hx] at rf;simp only[af] at rf;obtain⟨p,hm,hf⟩:=rf;have eN:=Ez hH ht c.args.toList;obtain⟨g,tmps,as_,body,h1,h2⟩:=hC.round _ _ _ _ _ _ _ he m S w (c.args.map a.eval) p hh hm (by simpa using eN);refine apg ho jT hf h1 h2 ?_;rintro e w' ⟨u,m',S',rfl,k1,k2,k3,k4⟩;exact⟨u,rfl,hn u m' S' w' k1 k2 k3 k4⟩
 have dyn:∀{c:yad} {f:xA},o.op=.call c->c.callee=.value f->eL O.prog O.aJ self hp ct .dyn (ay tm (aK H f)) (dN tm (iX H c.args.toList))=Gp (v,an,aI)->o.wpIn (WF ro) 0 O.P a w next Q:=by
  intro c f ho jT he;unfold eL at he
  split at he
  .rename_i g first cap hx
   (try simp only at he)
   cases hp0:aF (first++(dN tm (iX H c.args.toList)++cap)) with
   | true=>
    rw[hp0] at he;simp only[yu] at he
    cases hr:bO O.prog O.aJ self g (first++(dN tm (iX H c.args.toList)++cap)) with
    | none=>simp[hr] at he
    | some r=>
     simp only[hr,yc,yo] at he;obtain⟨rfl,rfl,rfl⟩:=he;obtain⟨fi,ca,h1,h2⟩:=ON hH ht (args:=c.args) hx;refine Oc ho jT h1 (hC.pure g _ r hr w S _ (Vd hh) hh.slt (Bf (fun _ h=>h) (fun _ _=>rfl) _ _ hp0 h2) hp0) ?_;rintro e w' ⟨u,S',rfl,hw,g1,g2,g3,g4⟩;obtain⟨S2,k1,k2,k3⟩:=abM g4 m;have hS:∀b,S b->S2 b:=fun b hb=>k1 b (g1 b hb)
     have DE:∀b,S2 b->S b\/w.heap.size<=b:=fun b hb=>(k2 b hb).elim (g2 b) (fun h=>.inr h.1)
     have hl:∀b,S2 b->b<w'.heap.size:=fun b hb=>(k2 b hb).elim (g3 b) (fun h=>h.2)
     exact⟨u,rfl,hn u m S2 w' (Ct hh hw hS DE hl) (yp _) k3 (Bj hh hw hS DE)⟩
   | false=>
    rw[hp0] at he;simp only[yP] at he;exact heap ho jT hx he
  .rename_i l x y hx;exact round ho jT hx he
  .cases he
 cases bP:q with
 | j0 rs x xs=>
  subst bP;simp only[aZ] at hv;have key:=UC hq;obtain⟨c,f,ho,jT,rfl,rfl⟩:=key
  cases hc:eL O.prog O.aJ self hp ct .dyn (ay tm (aK H f)) (dN tm (iX H c.args.toList)) with
  | none=>simp[hc] at hv
  | some r=>
   obtain⟨v1,aX,qv⟩:=r;simp only[hc] at hv
   cases hs:qW tm hp aX rs with
   | false=>rw[hs] at hv;cases hv
   | true=>
    rw[hs] at hv;simp only[yu,yc,yo] at hv;obtain⟨rfl,rfl,rfl⟩:=hv;exact dyn ho jT hc
 | call md x xs=>
  subst bP;have iI:∃k,Op.call md x xs=aP O.P H k o:=by
   rcases hq with h | ⟨c,f,rs,_,_,h⟩ | ⟨_,_,_,_,_,_,_,h⟩ | ⟨_,_,_,_,_,_,_,h⟩ | ⟨_,_,_,_,_,_,h⟩ | ⟨_,_,_,_,_,_,h⟩
   .exact h
   .cases h
   .cases h
   .cases h
   .cases h
   .cases h
  obtain⟨k,hk⟩:=iI
  cases md with
  | pure=>exact quiet (by simp[bl])
  | own=>exact quiet (by simp[bl])
  | heap=>
   simp only[aZ] at hv;obtain⟨c,f,ho,jT,rfl,rfl⟩:=Pe hk.symm (by rintro rfl;simp[ay,eL] at hv);unfold eL at hv
   split at hv
   .rename_i g first cap hx;exact heap ho jT hx hv
   .rename_i l x y hx;exact round ho jT hx hv
   .cases hv
  | dyn=>
   simp only[aZ] at hv;obtain⟨c,f,ho,jT,rfl,rfl⟩:=Pe hk.symm (by rintro rfl;simp[ay,eL] at hv);exact dyn ho jT hv
 | lP rs s x y=>
  subst bP;obtain⟨t,x',y',g1,g2,g3,g4⟩:=aeU hq;simp only[aZ] at hv
  split at hv
  .rename_i id off hx
   cases hf:mM tm id rs with
   | false=>rw[hf] at hv;cases hv
   | true=>
    rw[hf] at hv;simp only[yu] at hv
    exact VF (q':=.st s x y) ⟨0,by simp only[aP,g1,g2,g3,g4]⟩ hv
  .cases hv
 | my rs s b x y=>
  subst bP;simp only[aZ] at hv
  cases hc:cu tm hp ct (.di s b x y) with
  | none=>simp[hc] at hv
  | some r=>
   obtain⟨v1,aX,qv⟩:=r;simp only[hc] at hv
   cases hs:(Ht tm (ay tm x) rs||qW tm hp aX rs) with
   | false=>rw[hs] at hv;cases hv
   | true=>
    rw[hs] at hv;simp only[yu,yc,yo] at hv;obtain⟨rfl,rfl,rfl⟩:=hv
    exact VF (q':=.di s b x y) (aeV hq) hc
 | st s x y=>subst bP;exact write (by simpa only[aZ] using hv)
 | rT kk x y z=>subst bP;exact write (by simpa only[aZ] using hv)
 | rV x=>subst bP;exact write (by simpa only[aZ] using hv)
 | di s b x y=>subst bP;exact write (by simpa only[aZ] using hv)
 | rX s x y=>subst bP;exact write (by simpa only[aZ] using hv)
 | rS k x lo hi=>subst bP;exact quiet (by cases k<;>simp[bl])
 | len k x=>subst bP;exact quiet (by rcases k with _ | _ | k<;>simp[bl])
 | _=>subst bP;exact quiet (by simp[bl])
end
end
end
section
open Go
section
variable {v:AV}{d:Option Nat}
def ru(tm:Env)(g:Option (Nat×Bool)):Option Bool:=
 match g with
 | none=>Gp ydb
 | some (t,b)=>match ak tm t with | .bool c=>Gp (c==b) | .av []=>Gp ydc | _=>Gq
def fk(P:aE)(L:Lib)(self:cx)(tm:Env)(hp:Hp)(ct:Nat)(r:aS):iH:=
 match ru tm r.guard with
 | some ydb=>aZ P L self tm hp ct r.op
 | some ydc=>Gp (.av [],hp,ct)
 | none=>Gq
def aa3{P:aE}{L:Lib}{self:cx}{r:aS}{rs:List aS}{s:St}:
  de P L self (r::rs) s=match fk P L self s.tm s.hp s.ct r with | some (v,hp,ct)=>de P L self rs {s with tm:=put r.dst v s.tm,hp:=hp,ct:=ct} | none=>Gq:=by
 have⟨d,g,o⟩:=r;simp only[de,fk]
 cases g with
 | none=>rfl
 | some q=>
  have⟨t,b⟩:=q;simp only[ru];generalize ak s.tm t=x
  cases x with
  | bool c=>
   simp only;cases (c==b)<;>rfl
  | av vs=>cases vs<;>rfl
  | _=>rfl
def ad4(ops:Array yU)(g:Option (Nat×Bool))(g':Option (Nat×Bool)):Prop:=
 (g=Gq/\g'=Gq)\/∃t b j,g=Gp (t,b)/\g'=Gp (j,b)/\(ops[j]?).bind (·.dst)=Gp t
structure E2(P:xx)(H:Hint)(ops:Array yU)(r:aS)(o:yU):Prop where
 op:oH P H r.op o
 dst:r.dst=o.dst
 ok:Lq H o.dst=ydb
 guard:ad4 ops r.guard o.guard
def eR(P:xx)(H:Hint)(ops:Array yU):List aS->List yU->Prop
 | [],[]=>True
 | r::rs,o::l=>(E2 P H ops r o\/(r.guard=Gq/\r.op=bad))/\eR P H ops rs l
 | _,_=>False
def aa4{P:xx}{H:Hint}{ops:Array yU}:∀(l:List yU) (k:Nat),eR P H ops (Ep P H ops l k).1 l
 | [],k=>by simp[Ep,eR]
 | o::l,k=>by
  have ih:=aa4 (P:=P) (H:=H) (ops:=ops) l (k+(bif VA o then 1 else 0));simp only[Ep];generalize hq:Ep P H ops l (k+(bif VA o then 1 else 0))=q at ih;have⟨l',k'⟩:=q;simp only;have ib:eR P H ops (⟨o.dst,Gq,bad⟩::l') (o::l):=⟨.inr ⟨rfl,rfl⟩,ih⟩
  cases hg:o.guard with
  | none=>
   simp only
   cases hd:Lq H o.dst with
   | false=>exact ib
   | true=>exact⟨.inl ⟨.inl ⟨k,rfl⟩,rfl,hd,.inl ⟨rfl,hg⟩⟩,ih⟩
  | some p=>
   have⟨j,b⟩:=p;simp only
   cases ht:(ops[j]?).bind (·.dst) with
   | none=>exact ib
   | some t=>
    simp only
    cases hd:Lq H o.dst with
    | false=>exact ib
    | true=>exact⟨.inl ⟨.inl ⟨k,rfl⟩,rfl,hd,.inr ⟨t,b,j,rfl,hg,ht⟩⟩,ih⟩
section
variable {O:bz}{H:Hint}{m:Mp}{S:Nat->Prop}{w:yk}{tm:Env}{a:Act}{hp an:Hp}{ct aI:Nat}{self:cx}{ro:Option Nat}{Q:uC->Act->yk->Prop}{ops:Array yU}
def UD{tm:Env}{t:Nat}:ak (put d v tm) t=if d=Gp t then v else ak tm t:=by
 cases d with
 | none=>simp[put]
 | some i=>
  simp only[put,ak];by_cases h:i=t
  .subst h;simp
  .have:yq i t=ydc:=by
    cases hq:yq i t with
    | false=>rfl
    | true=>exact absurd (yg hq) h
   simp[this,h]
def OP(a:Act)(d:Option Nat)(u:yh):(a.put d u).tmps.size=a.tmps.size:=by
 cases d with
 | none=>rfl
 | some i=>simp[Act.put]
def TH(a:Act)(d:Option Nat)(u:yh):(a.put d u).defers=a.defers:=by
 cases d with
 | none=>rfl
 | some i=>rfl
def UE{a:Act}{u:yh}{t:Nat}(hd:∀i,d=Gp i->i<a.tmps.size):(a.put d u).tmps.getD t undef=if d=Gp t then u else a.tmps.getD t undef:=by
 cases d with
 | none=>simp[Act.put]
 | some i=>
  have hi:=hd i rfl;by_cases h:i=t
  .subst h;simp[Act.put,hi]
  .simp only [Act.put,yc,h,xz];simp[Array.getElem?_setIfInBounds_ne h]
def acO{n:Nat}(h:Lq H d=ydb)(hn:H.n<=n):∀i,d=Gp i->i<n:=by
 rintro i rfl
 have:=qY.1 h
 lia
def UF{u:yh}(ht:bX O m S w tm a.tmps)(hd:∀i,d=Gp i->i<a.tmps.size)(hv:af O.ae m S w v u):bX O m S w (put d v tm) (a.put d u).tmps:=fun t=>by
 rw[UD,UE hd]
 split
 .exact hv
 .exact ht t
def abT{o:yU}{g:Option (Nat×Bool)}{b:Bool}(hg:ad4 ops g o.guard)(ht:∀t,t∈V8 g->af O.ae m S w (ak tm t) (a.tmps.getD t undef))(hw:ru tm g=Gp b):Region.wanted o (yielded ops a.tmps)=b:=by
 rcases hg with ⟨rfl,h2⟩ | ⟨t,c,j,rfl,h2,h3⟩
 .simp only [ru,yc] at hw;subst hw;simp[Region.wanted,h2]
 .simp only [ru] at hw;have h4:=ht t (by simp[V8]);simp only[Region.wanted,h2]
  split at hw
  .rename_i d hd;rw[hd] at h4;simp only[af] at h4;simp only[yc] at hw
   have:yielded ops a.tmps j=Gp d:=by
    simp only[yielded,h3,wH];have h5:a.tmps[t]? =Gp (.bool d):=by
     simp only[wq] at h4
     cases hq:a.tmps[t]? with
     | none=>rw[hq] at h4;simp[undef] at h4
     | some x=>rw[hq] at h4;simp at h4;rw[h4]
    rw[h5]
   rw[this,<-hw];cases d<;>cases c<;>rfl
  .rename_i hd;rw[hd] at h4;simp only[af,aA] at h4;have⟨xs,h4,h5⟩:=h4;simp only[yc] at hw;subst hw
   have:yielded ops a.tmps j=Gq:=by
    simp only[yielded,h3,wH];simp only[wq] at h4
    cases hq:a.tmps[t]? with
    | none=>rfl
    | some x=>rw[hq] at h4;simp at h4;rw[h4]
   rw[this];rfl
  .cases hw
def aaB{o:yU}{q:Op}(hq:oH O.P H q o){r:AV×Hp×Nat}(hv:aZ O.prog O.aJ self tm hp ct q=Gp r):∀c,o.op≠.defer c:=by
 rcases hq with ⟨k,rfl⟩ | ⟨c,f,rs,h1,_,_⟩ | ⟨_,_,_,_,_,h1,_,_⟩ | ⟨k,rs,sz,b,x,y,h1,rfl⟩ | ⟨k,sz,b,x,y,h1,rfl⟩ | ⟨k,n,sz,z,ps,h1,rfl⟩
 .exact amg hv
 .intro c' h;rw[h1] at h;cases h
 .intro c' h;rw[h1] at h;cases h
 .intro c' h;simp only[aP,h] at h1;simp[bad] at h1
 .intro c' h;simp only[aP,h] at h1;simp[bad] at h1
 .intro c' h;simp only[aP,h] at h1;simp[bad] at h1
def aru(hC:pG O self)(hH:fo O H){i:Nat}{r:aS}{o:yU}(hi:ops[i]? =Gp o)(hr:E2 O.P H ops r o\/(r.guard=Gq/\r.op=bad))(hv:fk O.prog O.aJ self tm hp ct r=Gp (v,an,aI))(ht:bX O m S w tm a.tmps)(hh:aT O m S w hp ct)(hn:H.n<=a.tmps.size){K:Act->yk->Prop}(hK:∀u m' S' w',aT O m' S' w' an aI->ct<=aI->bX O m' S' w' (put r.dst v tm) (a.put o.dst u).tmps->b8 m S w hp m' S' w' an ct->K (a.put o.dst u) w'):wpOpIn (WF ro) 0 O.P ops Q i K a w:=by
 rcases hr with hr | ⟨h1,h2⟩
 case inr=>
  simp only[fk,h1,ru,h2,bad,aZ,eL,ay] at hv;cases hv
 unfold wpOpIn;simp only[hi];unfold fk at hv
 cases hw:ru tm r.guard with
 | none=>simp[hw] at hv
 | some b=>
  have YP:=abT hr.guard (fun t _=>ht t) hw;have hd:=acO hr.ok hn;rw[YP]
  cases b with
  | true=>
   simp only[hw] at hv;simp only[xP];refine acN hC hH hr.op (aaB hr.op hv) hv ht hh (fun u m' S' w' k1 k2 k3 k4=>hK u m' S' w' k1 k2 ?_ k4);rw[hr.dst];exact UF (Cs (fun id p h=>k4.old id p (hh.lt id p h) h) k4.sub (fun b hb=>k4.still b hb) ht) hd k3
  | false=>
   simp only[hw,yc,yo] at hv;obtain⟨rfl,rfl,rfl⟩:=hv;simp only[yD,xz];refine⟨fun _ _=>trivial,hK undef m S w hh (yp _) ?_ b8.refl⟩;rw[hr.dst];exact UF ht hd (by simp[af,aA,undef])
def ad5(hC:pG O self)(hH:fo O H):∀(l:List yU) (rs:List aS) (i:Nat) (s s':St) (a:Act) (m:Mp) (S:Nat->Prop) (w:yk),(∀j,l[j]? =ops[i+j]?)->eR O.P H ops rs l->
  de O.prog O.aJ self rs s=Gp s'->bX O m S w s.tm a.tmps->aT O m S w s.hp s.ct->H.n<=a.tmps.size->
  (∀a' m' S' w',aT O m' S' w' s'.hp s'.ct->s.ct<=s'.ct->bX O m' S' w' s'.tm a'.tmps->b8 m S w s.hp m' S' w' s'.hp s.ct->a'.tmps.size=a.tmps.size->a'.defers=a.defers->s'.base=s.base->Q .normal a' w')->
  wpOpsIn (WF ro) 0 O.P ops Q (List.range' i l.length) a w
 | [],rs,i,s,s',a,m,S,w,hl,hr,hv,ht,hh,hn,hQ=>by
  cases rs with
  | cons _ _=>simp[eR] at hr
  | nil=>
   simp only[de,yc] at hv;subst hv;simp only[yN,List.range'_zero,wpOpsIn];exact hQ a m S w hh (yp _) ht b8.refl rfl rfl rfl
 | o::l,rs,i,s,s',a,m,S,w,hl,hr,hv,ht,hh,hn,hQ=>by
  cases rs with
  | nil=>simp[eR] at hr
  | cons r rs=>
   simp only[eR] at hr;rw[aa3] at hv
   cases h1:fk O.prog O.aJ self s.tm s.hp s.ct r with
   | none=>simp[h1] at hv
   | some q=>
    have⟨v,aX,qv⟩:=q;simp only[h1] at hv;have hi:ops[i]? =Gp o:=by have:=hl 0;simpa using this.symm
    rw[yF,List.range'_succ,wpOpsIn_cons];refine aru hC hH hi hr.1 h1 ht hh hn (fun u m1 S1 w1 k1 k2 k3 k4=>?_)
    refine ad5 hC hH l rs (i+1) {s with tm:=put r.dst v s.tm,hp:=aX,ct:=qv} s' _ m1 S1 w1 (fun j=>?_) hr.2 hv k3 k1 (by rw[OP];exact hn) (fun a' m' S' w' g1 g2 g3 g4 g5 g6 g7=>?_)
    .have:=hl (j+1)
     rw[yaG] at this;rw[this];congr 1;lia
    .exact hQ a' m' S' w' g1 (xo k2 g2) g3 (k4.trans (g4.Aq k2)) (by rw[g5,OP]) (by rw[g6,TH]) g7
end
end
end
section
open Go
section
variable {ops:Array yU}
def Tu{acc:List Nat}{i:Nat}:∀{es:List Edge},vH (CN acc es) i=ydb->∃e,e∈es/\Region.binds .any e=ydb/\(i=e.on\/vH (acc.getD e.on 0) i=ydb)
 | [],h=>by simp[CN] at h
 | e::r,h=>by
  simp only[CN] at h
  cases hb:Region.binds .any e with
  | false=>
   rw[hb] at h;have⟨e',h1,h2⟩:=Tu h
   grind
  | true=>
   rw[hb] at h;simp only[yu,ybR,uG] at h;rcases h with (h | h) | h
   .grind
   .grind
   .have ⟨e',h1,h2⟩:=Tu h
    grind
def abU{l:List yU}{acc:List Nat}{j:Nat}(hj:j<acc.length):(kM acc l)[j]? =acc[j]? :=by
 induction l generalizing acc with
 | nil=>rfl
 | cons o l ih=>
  simp only[kM]
  grind
def amo{l:List yU}{acc:List Nat}{j:Nat}{o:yU}(h:l[j]? =Gp o):∃BI:List Nat,(kM acc l)[acc.length+j]? =Gp (CN BI o.after.toList)/\BI.length=acc.length+j/\∀k,k<BI.length->BI[k]? =(kM acc l)[k]? :=by
 induction l generalizing acc j with
 | nil=>simp at h
 | cons x l ih=>
  cases j with
  | zero=>
   simp only[ui,yc] at h;subst h;refine⟨acc,?_,by simp,fun k hk=>?_⟩
   .simp only [kM];rw[abU (by simp)]
    simp
   .simp only [kM];rw[abU (by rw[yJ];lia),List.getElem?_append_left hk]
  | succ j=>
   have⟨BI,h1,h2,h3⟩:=ih (acc:=acc++[CN acc x.after.toList]) h;simp only[yJ,yF,yN] at h1 h2;refine⟨BI,?_,by lia,fun k hk=>?_⟩
   .simp only [kM]
    grind
   .simp only [kM];exact h3 k hk
def Ord(ops:Array yU)(i j:Nat):Prop:=vH ((kM [] ops.toList).getD j 0) i=ydb
def VG(ops:Array yU)(D:Nat->Prop):Prop:=∀j o,ops[j]? =Gp o->D j->∀e,e∈o.after->Region.binds .any e=ydb->D e.on
def abV{D:Nat->Prop}(hc:VG ops D):∀(j:Nat) (o:yU),ops[j]? =Gp o->(∀e,e∈o.after->Region.binds .any e=ydb->D e.on)->∀i,Ord ops i j->D i:=by
 intro j
 induction j using vP with
 | _ j ih=>
  intro o ho hr i hi;have jQ:ops.toList[j]? =Gp o:=by simp_all
  have⟨BI,h1,h2,h3⟩:=amo (acc:=[]) jQ;simp only[yN,yd] at h1 h2;unfold Ord at hi;rw[xc,h1,wV] at hi;have⟨e,g1,g2,g3⟩:=Tu hi;have he:D e.on:=hr e (by simpa using g1) g2;rcases g3 with rfl | g3
  .grind
  .rcases vm e.on j with aH | ll
   .have h4:=h3 e.on (by lia);have M7:e.on<ops.size:=by
     grind
    have M2:ops[e.on]? =Gp ops[e.on]:=by simp_all
    refine ih e.on aH _ M2 (fun e' he' bJ=>hc e.on _ M2 he e' he' bJ) i ?_;unfold Ord
    grind
   .grind
def apm{D:Nat->Prop}(hc:VG ops D){i j:Nat}{o:yU}(ho:ops[j]? =Gp o)(hj:D j)(hi:Ord ops i j):D i:=
 abV hc j o ho (fun e he hb=>hc j o ho hj e he hb) i hi
def aak:∀{l:List yU} {k j:Nat} {o:yU},n9 l k=ydb->l[j]? =Gp o->∀e,e∈o.after->Region.binds .any e=ydb->e.on<k+j
 | [],k,j,o,_,h=>by simp at h
 | x::l,k,j,o,hb,h=>by
  simp only[n9,ye] at hb
  cases j with
  | zero=>
   simp only[ui,yc] at h;subst h;intro e he zu
   have:=ybv.1 hb.1 e (by simpa using he)
   simp_all
  | succ j=>
   intro e he zu
   have:=aak hb.2 h e he zu
   lia
end
def Fe(a b:aS)(r:List aS):Prop:=OJ a b=ydc/\(JX a b=ydc\/Kj a b r=ydb)
def aam{m:Nat}{b:aS}:∀{l:List aS} {k i:Nat} {a:aS},OK m b l k=ydb->l[i]? =Gp a->vH m (k+i)=ydb\/Fe a b (l.drop (i+1))
 | [],k,i,a,_,h=>by simp at h
 | x::l,k,i,a,hp,h=>by
  simp only[OK,ye] at hp
  cases i with
  | zero=>
   simp only[ui,yc] at h;subst h;have h1:=hp.1;simp only[uG,vR,yaT,Bool.and_eq_false_iff,Bool.not_eq_false'] at h1;rcases h1 with h1 | ⟨h1,h2⟩
   .grind
   .exact .inr ⟨h1,by simpa using h2⟩
  | succ i=>
   rcases aam hp.2 h with h1 | h1
   .grind
   .grind
def Tk:∀{l done:List aS} {ms:List Nat} {i j:Nat} {a b:aS},qV done l ms=ydb->(done++l)[i]? =Gp a->l[j]? =Gp b->i<done.length+j->
  ∃m,ms[j]? =Gp m/\(vH m i=ydb\/Fe a b (((done++l).take (done.length+j)).drop (i+1)))
 | [],done,ms,i,j,a,b,_,_,h,_=>by simp at h
 | x::l,done,[],i,j,a,b,hp,_,h,_=>by simp[qV] at hp
 | x::l,done,m::ms,i,j,a,b,hp,ha,h,qw=>by
  simp only[qV,ye] at hp
  cases j with
  | zero=>
   have FU:done[i]? =Gp a:=by grind
   have:=aam hp.1 FU
   grind
  | succ j=>
   have e:done++x::l=(done++[x])++l:=by simp
   have⟨m',h1,h2⟩:=Tk (i:=i) (a:=a) hp.2 (by rw[<-e];exact ha) h (by simp;lia)
   grind
def NS{a b:aS}(h:OJ a b=ydc):(∀d,a.dst=Gp d->d∉Ey b/\b.dst≠Gp d)/\(∀d,b.dst=Gp d->d∉Ey a):=by
 have mem:∀{i:Nat} {l:List Nat},jH i l=ydc->i∉l:=by
  intro i l
  induction l with
  | nil=>intro _ h;cases h
  | cons j r ih=>
   intro h hm;simp only[jH] at h
   cases hb:yq j i with
   | true=>rw[hb] at h;cases h
   | false=>
    simp_all
 simp only[OJ,yaT] at h;have⟨⟨h1,h2⟩,h3⟩:=h;refine⟨fun d hd=>⟨mem (by simpa[hd,Hs] using h1),fun hb=>?_⟩,fun d hd=>mem (by simpa[hd,Hs] using h2)⟩;rw[hd,hb] at h3;simp[V9] at h3
def aa5{t:Nat}:∀{l:List aS},EU t l=ydb->∀r,r∈l->r.dst≠Gp t
 | [],_,r,h=>by cases h
 | x::l,h,r,hr=>by
  simp only[EU,ye,vR] at h;rcases xy.1 hr with rfl | hr
  .intro hd;rw[hd] at h;simp[Hs,jH] at h
  .exact aa5 h.2 r hr
def Ow{sz t:Nat}{ag:Bool}:∀{l:List (Nat×Bool×Nat)},E9 sz ag t l=ydb->(sz,ag,t)∈l
 | [],h=>by simp[E9] at h
 | (s,g,u)::r,h=>by
  simp only[E9,uG,ye] at h;rcases h with ⟨h1,h2,h3⟩ | h
  .simp_all
  .exact xM _ (Ow h)
def UG:∀{a b:List Nat},cK a b=ydb->a=b
 | [],[],_=>rfl
 | [],_::_,h=>by simp[cK] at h
 | _::_,[],h=>by simp[cK] at h
 | x::a,y::b,h=>by
  simp only[cK,ye] at h;rw[yg h.1,UG h.2]
def ano{a b:AV}(h:WY a b=ydb):a=b:=by
 unfold WY at h
 split at h
 .grind
 .grind
 .rw [UG h]
 .rfl
 .rfl
 .simp_all
 .simp_all
 .simp_all
 .cases h
def Tl{tm:Env}{hp an:Hp}{sz t:Nat}{ag:Bool}{v:AV}:∀{l:List (Nat×Bool×Nat)},qW tm hp an l=ydb->(sz,ag,t)∈l->gn hp sz ag (ak tm t)=Gp v->gn an sz ag (ak tm t)=Gp v
 | [],_,h,_=>by cases h
 | (s,g,u)::r,h,hm,hv=>by
  simp only[qW] at h
  cases h1:gn hp s g (ak tm u) with
  | none=>simp[h1] at h
  | some x=>
   cases h2:gn an s g (ak tm u) with
   | none=>simp[h1,h2] at h
   | some y=>
    simp only[h1,h2,ye] at h;rcases xy.1 hm with e | hm
    .simp only [yo] at e;obtain⟨rfl,rfl,rfl⟩:=e;rw[h1] at hv;rw[h2,<-ano h.1,hv]
    .exact Tl h.2 hm hv
structure QG(P:aE)(L:Lib)(run:cx)(rs:List aS)(bi:Nat->Env)(bM:Nat->Hp)(bF:Nat->Nat)(vF:Nat->AV):Prop where
 step:∀i r,rs[i]? =Gp r->fk P L run (bi i) (bM i) (bF i) r=Gp (vF i,bM (i+1),bF (i+1))
 tm:∀i r,rs[i]? =Gp r->bi (i+1)=put r.dst (vF i) (bi i)
def ad6{P:aE}{L:Lib}{self:cx}:∀{rs:List aS} {s s':St},de P L self rs s=Gp s'->
  ∃bi bM bF vF,QG P L self rs bi bM bF vF/\bi 0=s.tm/\bM 0=s.hp/\bF 0=s.ct/\bi rs.length=s'.tm/\bM rs.length=s'.hp/\bF rs.length=s'.ct/\s'.base=s.base
 | [],s,s',h=>by
  simp only[de,yc] at h;subst h;exact⟨fun _=>s.tm,fun _=>s.hp,fun _=>s.ct,fun _=>.undef,⟨fun i r h=>by simp at h,fun i r h=>by simp at h⟩,rfl,rfl,rfl,rfl,rfl,rfl,rfl⟩
 | r::rs,s,s',h=>by
  rw[aa3] at h
  cases h1:fk P L self s.tm s.hp s.ct r with
  | none=>simp[h1] at h
  | some q=>
   have⟨v,aX,qv⟩:=q;simp only[h1] at h;have⟨bi,bM,bF,vF,g1,g2,g3,g4,g5,g6,g7,g8⟩:=ad6 h;refine⟨fun i=>match i with | 0=>s.tm | i+1=>bi i,fun i=>match i with | 0=>s.hp | i+1=>bM i,fun i=>match i with | 0=>s.ct | i+1=>bF i,fun i=>match i with | 0=>v | i+1=>vF i,⟨?_,?_⟩,rfl,rfl,rfl,by simpa using g5,by simpa using g6,by simpa using g7,g8⟩
   .intro i r' hi
    cases i with
    | zero=>
     grind
    | succ i=>exact g1.step i r' (by simpa using hi)
   .intro i r' hi
    cases i with
    | zero=>
     grind
    | succ i=>exact g1.tm i r' (by simpa using hi)
section
variable {P:aE}{L:Lib}{self:cx}{rs:List aS}{bi:Nat->Env}{bM:Nat->Hp}{bF:Nat->Nat}{vF:Nat->AV}
def J0(hR:QG P L self rs bi bM bF vF){t i:Nat}:∀(k:Nat),i+k<=rs.length->(∀j r,i<=j->j<i+k->rs[j]? =Gp r->r.dst≠Gp t)->ak (bi (i+k)) t=ak (bi i) t
 | 0,_,_=>rfl
 | k+1,hk,h=>by
  have hr:rs[i+k]? =Gp rs[i+k]:=by simp_all
  rw[show i+(k+1)=i+k+1 by lia,hR.tm _ _ hr,UD,yr (h (i+k) _ (by lia) (by lia) hr)];exact J0 hR k (by lia) (fun j r h1 h2=>h j r h1 (by lia))
def abW{r:aS}{tm:Env}{hp an:Hp}{ct aI:Nat}{v:AV}(hk:bl r.op<=1)(hv:fk P L self tm hp ct r=Gp (v,an,aI))(aH:∀id o,ai hp id=Gp o->id<ct):jE hp ct an aI:=by
 unfold fk at hv
 cases hw:ru tm r.guard with
 | none=>simp[hw] at hv
 | some b=>
  cases b with
  | true=>simp only[hw] at hv;exact aaA hk hv aH
  | false=>
   simp only[hw,yc,yo] at hv;obtain⟨rfl,rfl,rfl⟩:=hv;exact jE.refl aH
def Ox(hR:QG P L self rs bi bM bF vF){i:Nat}(aH:∀id o,ai (bM i) id=Gp o->id<bF i):∀(k:Nat),i+k<=rs.length->(∀j r,i<=j->j<i+k->rs[j]? =Gp r->bl r.op<=1)->jE (bM i) (bF i) (bM (i+k)) (bF (i+k))
 | 0,_,_=>jE.refl aH
 | k+1,hk,h=>by
  have ih:=Ox hR aH k (by lia) (fun j r h1 h2=>h j r h1 (by lia));have hr:rs[i+k]? =Gp rs[i+k]:=by simp_all
  exact ih.trans (abW (h (i+k) _ (by lia) (by lia) hr) (hR.step _ _ hr) ih.lt)
end
end
section
open Go
section
variable {tm:Env}{hp:Hp}{ct i:Nat}{r:aS}
def OQ{tm:Env}{t:Nat}:∀{l:List Nat},t∈l->ak (bc tm l) t=ak tm t
 | [],h=>by cases h
 | i::r,h=>by
  simp only[bc,ak]
  cases hb:yq i t with
  | true=>rw[yg hb];rfl
  | false=>
   rcases xy.1 h with e | h
   .simp_all
   .exact OQ h
def anp{P:aE}{L:Lib}{self:cx}{tm':Env}{o:Op}{r:AV×Hp×Nat}(h:∀t,t∈kT o->ak tm' t=ak tm t)(hv:aZ P L self tm hp ct o=Gp r):aZ P L self tm' hp ct (j9 o)=Gp r:=by
 cases o with
 | j0 rs f xs=>
  simp only[kT,xF] at h;simp only[j9,aZ] at hv ⊢
  rw[dM (x:=f) fun t ht=>h t (.inl ht),Ej (xs:=xs) fun t ht=>h t (.inr ht)]
  cases hc:eL P L self hp ct .dyn (ay tm f) (dN tm xs) with
  | none=>simp[hc] at hv
  | some q=>
   obtain⟨v1,aX,qv⟩:=q;simp only[hc] at hv
   cases hs:qW tm hp aX rs with
   | false=>rw[hs] at hv;cases hv
   | true=>
    rw[hs] at hv;simpa only[qW,yu] using hv
 | lP rs sz x v=>
  simp only[j9,aZ] at hv ⊢
  rw[Ei (o:=.st sz x v) (tm:=tm) h]
  split at hv
  .rename_i id off hx
   cases hf:mM tm id rs with
   | false=>rw[hf] at hv;cases hv
   | true=>rw[hf] at hv;exact hv
  .cases hv
 | my rs sz b x v=>
  simp only[j9,aZ] at hv ⊢
  rw[Ei (o:=.di sz b x v) (tm:=tm) h]
  cases hc:cu tm hp ct (.di sz b x v) with
  | none=>simp[hc] at hv
  | some q=>
   obtain⟨v1,aX,qv⟩:=q;simp only[hc] at hv
   cases hs:(Ht tm (ay tm x) rs||qW tm hp aX rs) with
   | false=>rw[hs] at hv;cases hv
   | true=>rw[hs] at hv;exact hv
 | rW sz b x v=>
  rw[<-hv];simp only[kT,xF] at h;simp only[j9,aZ]
  rw[dM (x:=x) fun t ht=>h t (.inl ht),dM (x:=v) fun t ht=>h t (.inr ht)]
 | call md f xs=>
  rw[<-hv];simp only[kT,xF] at h;simp only[j9,aZ]
  rw[dM (x:=f) fun t ht=>h t (.inl ht),Ej (xs:=xs) fun t ht=>h t (.inr ht)]
 | st s x y=>rw[<-hv];simp only[j9,aZ];exact Ei h
 | rT kk x y z=>rw[<-hv];simp only[j9,aZ];exact Ei h
 | rV x=>rw[<-hv];simp only[j9,aZ];exact Ei h
 | di s b x y=>rw[<-hv];simp only[j9,aZ];exact Ei h
 | rX s x y=>rw[<-hv];simp only[j9,aZ];exact Ei h
 | box s x=>rw[<-hv];simp only[j9,aZ];rw[JN (hp:=hp) h]
 | kj n s z ps=>rw[<-hv];simp only[j9,aZ];rw[JN (hp:=hp) h]
 | p8 s b z x y=>rw[<-hv];simp only[j9,aZ];rw[JN (hp:=hp) h]
 | BY=>exact hv
 | rU x=>rw[<-hv];simp only[j9,aZ];rw[JN (hp:=hp) h]
 | _=>rw[<-hv];simp only[j9,aZ];rw[alK h]
def acP{P:aE}{L:Lib}{self:cx}{an:Hp}{aI:Nat}{q:Op}{v:AV}(hk:bl q=0\/∃sz ag x,q=.ld sz ag x)(hv:aZ P L self tm hp ct q=Gp (v,an,aI)):bj tm hp q=Gp v/\an=hp/\aI=ct:=by
 have fN:∀{q:Op},(match bj tm hp q with | some v=>Gp (v,hp,ct) | none=>(Gq:iH))=Gp (v,an,aI)->bj tm hp q=Gp v/\an=hp/\aI=ct:=by
  intro q h
  cases hm:bj tm hp q with
  | none=>simp[hm] at h
  | some r=>
   simp only[hm,yc,yo] at h;obtain⟨rfl,rfl,rfl⟩:=h;exact⟨rfl,rfl,rfl⟩
 rcases hk with hk | ⟨sz,ag,x,rfl⟩
 .cases bP:q with
  | call md f xs=>subst bP;cases md<;>simp[bl] at hk
  | j0 rs f xs=>subst bP;simp[bl] at hk
  | lP rs s x y=>subst bP;simp[bl] at hk
  | my rs s b x y=>subst bP;simp[bl] at hk
  | rW s b x y=>subst bP;simp[bl] at hk
  | st s x y=>subst bP;simp[bl] at hk
  | rT kk x y z=>subst bP;simp[bl] at hk
  | rV x=>subst bP;simp[bl] at hk
  | di s b x y=>subst bP;simp[bl] at hk
  | rX s x y=>subst bP;simp[bl] at hk
  | box s x=>subst bP;simp[bl] at hk
  | kj n s z ps=>subst bP;simp[bl] at hk
  | p8 s b z x y=>subst bP;simp[bl] at hk
  | BY=>subst bP;simp[bl] at hk
  | rU x=>subst bP;simp[bl] at hk
  | _=>exact bP▸fN (q:=q) (by rw[bP] at hv ⊢;simp only[aZ] at hv;exact hv)
 .exact fN (q:=.ld sz ag x) (by simp only[aZ] at hv;exact hv)
section
variable {O:bz}{H:Hint}{ops:Array yU}{π:Nat->Nat}{rs:List aS}{bi:Nat->Env}{bM:Nat->Hp}{bF:Nat->Nat}{vF:Nat->AV}{self:cx}{ro:Option Nat}{Q:uC->Act->yk->Prop}
structure Aj(O:bz)(H:Hint)(FV:cx)(ops:Array yU)(π:Nat->Nat)(rs:List aS)(bi:Nat->Env)(bM:Nat->Hp)(bF:Nat->Nat)(vF:Nat->AV):Prop where
 run:QG O.prog O.aJ FV rs bi bM bF vF
 len:rs.length=ops.size
 of:∀(i:Nat) (r:aS) (o:yU),rs[i]? =Gp r->ops[π i]? =Gp o->E2 O.P H ops r o
 pair:∀(i j:Nat) (a b:aS),i<j->rs[i]? =Gp a->rs[j]? =Gp b->Ord ops (π i) (π j)\/Fe a b ((rs.take j).drop (i+1))
 back:∀(i:Nat) (o:yU),ops[i]? =Gp o->∀e,e∈o.after->Region.binds .any e=ydb->e.on<i
def lm(rs:List aS)(i:Nat):Prop:=∃r,rs[i]? =Gp r/\bl r.op=2
def VH(rs:List aS):∀(k i:Nat),i+k=rs.length->∃c,i<=c/\c<=rs.length/\(∀j,i<=j->j<c->¬lm rs j)/\(c=rs.length\/lm rs c)
 | 0,i,h=>⟨i,yp _,by lia,fun j h1 h2=>by lia,.inl (by lia)⟩
 | k+1,i,h=>by
  rcases uX (lm rs i) with hw | hw
  .grind
  .have ⟨c,h1,h2,h3,h4⟩:=VH rs k (i+1) (by lia)
   grind
def Km{rs:List aS}(hr:rs[i]? =Gp r)(hw:¬lm rs i):bl r.op<=1:=by
 have h:bl r.op≠2:=fun e=>hw ⟨r,hr,e⟩
 have:bl r.op<=2:=by
  cases r.op with
  | rS k x lo hi=>cases k<;>simp[bl]
  | len k x=>rcases k with _ | _ | k<;>simp[bl]
  | call md f xs=>cases md<;>simp[bl]
  | _=>simp[bl]
 lia
def Sr(O:bz)(rs:List aS)(bi:Nat->Env)(D:Nat->Prop)(m:Mp)(S:Nat->Prop)(w:yk)(a:Act):Prop:=
 ∀t,∃j,j<=rs.length/\(∀(i:Nat) (r:aS),rs[i]? =Gp r->r.dst=Gp t->(D i↔i<j))/\af O.ae m S w (ak (bi j) t) (a.tmps.getD t undef)
def arv{D:Nat->Prop}{m:Mp}{S:Nat->Prop}{w:yk}{a:Act}(hG:Aj O H self ops π rs bi bM bF vF)(hT:Sr O rs bi D m S w a)(hr:rs[i]? =Gp r)(hi:¬D i)(eS:∀j,Ord ops (π j) (π i)->D j)(fU:∀j,Ord ops (π i) (π j)->¬D j):∀t,t∈Ey r->af O.ae m S w (ak (bi i) t) (a.tmps.getD t undef):=by
 intro t ht;obtain⟨j,h1,h2,h3⟩:=hT t;have B8:i<rs.length:=(xN.1 hr).1;have e:ak (bi j) t=ak (bi i) t:=by
  rcases Nat.le_total j i with FW | qw
  .obtain ⟨k,rfl⟩:∃k,i=j+k:=⟨i-j,by omega⟩;refine (J0 hG.run k (by omega) (fun l rl g1 g2 hl hd=>?_)).symm;have hnD:¬D l:=fun hD=>by have:=(h2 l rl hl hd).1 hD;omega
   rcases hG.pair l (j+k) rl r (by omega) hl hr with ho | hf
   .exact hnD (eS l ho)
   .exact ((NS hf.1).1 t hd).1 ht
  .obtain ⟨k,rfl⟩:∃k,j=i+k:=⟨j-i,by omega⟩;refine J0 hG.run k h1 (fun l rl g1 g2 hl hd=>?_);have hD:D l:=(h2 l rl hl hd).2 (by omega);rcases vK g1 with rfl | g1
   .exact hi hD
   .rcases hG.pair i l r rl g1 hr hl with ho | hf
    .exact fU l ho hD
    .exact (NS hf.1).2 t hd ht
 rw[<-e];exact h3
def ad7{D D':Nat->Prop}{m m':Mp}{S S':Nat->Prop}{w w':yk}{a:Act}{u:yh}(hG:Aj O H self ops π rs bi bM bF vF)(hT:Sr O rs bi D m S w a)(hr:rs[i]? =Gp r)(hi:¬D i)(eS:∀j,Ord ops (π j) (π i)->D j)(fU:∀j,Ord ops (π i) (π j)->¬D j)(hD:∀j,D' j↔D j\/j=i)(hm:dl m m')(hS:∀b,S b->S' b)(hw:gm S w w')(hd:∀d,r.dst=Gp d->d<a.tmps.size)(hv:af O.ae m' S' w' (vF i) u):Sr O rs bi D' m' S' w' (a.put r.dst u):=by
 intro t;have B8:i<rs.length:=(xN.1 hr).1;by_cases Il:r.dst=Gp t
 .refine ⟨i+1,B8,fun l rl hl Im=>?_,?_⟩
  .rw [hD];constructor
   .rintro (h | h)
    .rcases vm l (i+1) with g | g
     .exact g
     .rcases hG.pair i l r rl (by omega) hr hl with ho | hf
      .exact (fU l ho h).elim
      .exact (((NS hf.1).1 t Il).2 Im).elim
    .omega
   .intro h;rcases vK (vT h) with h | h
    .exact .inr h
    .rcases hG.pair l i rl r h hl hr with ho | hf
     .exact .inl (eS l ho)
     .exact (((NS hf.1).1 t Im).2 Il).elim
  .rw [hG.run.tm i r hr,UD,UE hd,yC Il,yC Il];exact hv
 .obtain ⟨j,h1,h2,h3⟩:=hT t;refine⟨j,h1,fun l rl hl Im=>?_,?_⟩
  .rw [hD,<-h2 l rl hl Im];constructor
   .rintro (h | h)
    .exact h
    .subst h;rw[hr] at hl;injection hl with hl
     subst hl;exact (Il Im).elim
   .exact .inl
  .rw [UE hd,yr Il];exact mJ hm hS hw _ _ h3
def aaC{tm:Env}{hp an:Hp}{ct aI id off sz nT t:Nat}{ag:Bool}{x y:X}{v v':AV}:∀{l:List (Nat×Bool×Nat)},mM tm id l=ydb->(sz,ag,t)∈l->ay tm x=.ptr id off->
  cu tm hp ct (.st nT x y)=Gp (v',an,aI)->gn hp sz ag (ak tm t)=Gp v->gn an sz ag (ak tm t)=Gp v
 | [],_,h,_,_,_=>by cases h
 | (s,g,u)::r,h,hm,hx,hw,hv=>by
  simp only[mM,ye] at h;rcases xy.1 hm with e | hm
  .simp only [yo] at e;obtain⟨rfl,rfl,rfl⟩:=e;have h1:=h.1
   split at h1
   .rename_i j o hj;have eI:j≠id:=by
     intro e
     simp_all
    rw[hj] at hv ⊢;simp only[cu,hx] at hw;have key:∀ob,ai (aU hp id ob) j=ai hp j:=fun ob=>by rw[zS,yr (ycJ eI)]
    split at hw
    .rename_i pu ex z cs DH;generalize (yq _ _&&yB _ _&&cd _)=bb at hw
     cases bb with
     | false=>cases hw
     | true=>
      obtain⟨_,rfl,_⟩:=hw;simp only[gn,key] at hv ⊢;exact hv
    .cases hw
   .rename_i cs hj;rw[hj] at hv ⊢;simpa only[gn] using hv
   .cases h1
  .exact aaC h.2 hm hx hw hv
def Tm{id j:Nat}(h:j≠id):∀(hp:Hp),ai (cE hp id) j=ai hp j
 | []=>rfl
 | (k,o)::r=>by
  simp only[cE,ai]
  cases h1:yq k id with
  | true=>
   have e:=yg h1;simp only[yu];rw[Tm h r]
   cases h2:yq k j with
   | true=>exact absurd (yg h2▸e) h
   | false=>rfl
  | false=>
   simp only[yP,ai];rw[Tm h r]
def anq{an:Hp}{aI sz nT bb t:Nat}{ag:Bool}{x y:X}{v v':AV}{l:List (Nat×Bool×Nat)}(h:Ht tm (ay tm x) l=ydb)(hm:(sz,ag,t)∈l)(hw:cu tm hp ct (.di nT bb x y)=Gp (v',an,aI))(aH:∀id o,ai hp id=Gp o->id<ct)(hv:gn hp sz ag (ak tm t)=Gp v):gn an sz ag (ak tm t)=Gp v:=by
 have grow:∀{o:Obj},an=(ct,o)::hp->gn an sz ag (ak tm t)=Gp v:=fun {o} e=>by
  subst e;refine U9 (fun id o' jQ=>⟨o',?_,jR.refl o'⟩) hv
  rw[fG,yr (by have:=aH id o' jQ;omega)];exact jQ
 simp only[cu] at hw
 cases hs:jD hp nT (ay tm y) with
 | none=>simp[hs] at hw
 | some q=>
  obtain⟨mm,new⟩:=q;simp only[hs] at hw;cases hx:ay tm x<;>rw[hx] at hw h<;>simp only[Ht,yD] at h<;>(try simp only at hw)
  case ah=>
   cases hb:yq mm 0 with
   | true=>simp only[hb,yu,yc,yo] at hw;rw[<-hw.2.1];exact hv
   | false=>
    rw[hb] at hw;simp only[yP] at hw;generalize (yB mm room&&(yB (mm*bb) room&&yL 0 nT))=b2 at hw
    cases b2 with
    | false=>cases hw
    | true=>simp only[yu,yc,yo] at hw;exact grow hw.2.1.symm
  case ap ex n cs=>
   cases ex with
   | false=>simp at hw
   | true=>
    simp only at hw
    cases hb:yq mm 0 with
    | true=>simp only[hb,yu,yc,yo] at hw;rw[<-hw.2.1];exact hv
    | false=>
     rw[hb] at hw;simp only[yP] at hw;generalize (yB (n+mm) room&&(yB ((n+mm)*bb) room&&(yq cs.length (n*nT)&&yL 0 nT)))=b2 at hw
     cases b2 with
     | false=>cases hw
     | true=>simp only[yu,yc,yo] at hw;exact grow hw.2.1.symm
  case aq id o n=>
   split at hw
   .rename_i pu ex z cs DH;generalize (yq z nT&&_)=b2 at hw
    cases b2 with
    | false=>cases hw
    | true=>
     simp only[yu,yc,yo] at hw;obtain⟨_,rfl,_⟩:=hw;clear DH;have key:∀l,mM tm id l=ydb->(sz,ag,t)∈l->(∃j off,ak tm t=.ptr j off/\j≠id)\/∃cs,ak tm t=.bC cs:=by
      intro l
      induction l with
      | nil=>intro _ hm;cases hm
      | cons e l ih=>
       obtain⟨s,g,u⟩:=e;intro h hm;simp only[mM,ye] at h;rcases xy.1 hm with e | hm
       .simp only [yo] at e;obtain⟨rfl,rfl,rfl⟩:=e;have h1:=h.1
        split at h1
        .rename_i j off hj;refine .inl ⟨j,off,hj,fun e=>?_⟩;subst e;simp at h1
        .rename_i cs hj;exact .inr ⟨cs,hj⟩
        .cases h1
       .exact ih h.2 hm
     rcases key l h hm with ⟨j,off,e,eI⟩ | ⟨dE,e⟩
     .rw [e] at hv ⊢;simp only[gn] at hv ⊢;have azV:ai hp j≠Gq:=by
       intro e0;rw[e0] at hv;cases hv
      cases hj:ai hp j with
      | none=>exact absurd hj azV
      | some ob=>
       have:=aH j ob hj
       rw[fG,yr (by omega),Tm eI,hj];rw[hj] at hv;exact hv
     .rw [e] at hv ⊢;simpa only[gn] using hv
   .cases hw
def aap{D:Nat->Prop}{i c:Nat}{r:aS}{sz t:Nat}{ag:Bool}(hG:Aj O H self ops π rs bi bM bF vF)(hr:rs[i]? =Gp r)(hi:¬D i)(Io:r.guard=Gq/\r.op=.ld sz ag (.t t))(hc:c<=rs.length)(hW:∀j,j<c->lm rs j->D j)(fU:∀j,Ord ops (π i) (π j)->¬D j)(aH:∀j,j<=c->∀id o,ai (bM j) id=Gp o->id<bF j):∀k,i+1+k<=c->gn (bM (i+1+k)) sz ag (ak (bi i) t)=Gp (vF i)
 | 0,hk=>by
  have h1:=hG.run.step i r hr;simp only[fk,Io.1,ru,Io.2] at h1;obtain⟨h2,h3,h4⟩:=acP (.inr ⟨_,_,_,rfl⟩) h1;simp only[bj,ay] at h2;rw[yX,h3];exact h2
 | k+1,hk=>by
  have ih:=aap hG hr hi Io hc hW fU aH k (by omega);have hl:i+1+k<rs.length:=by omega
  have hj:rs[i+1+k]? =Gp rs[i+1+k]:=by simp[hl]
  have aR:=hG.run.step _ _ hj;rw[show i+1+(k+1)=i+1+k+1 by omega];rcases uX (lm rs (i+1+k)) with hw | hw
  .have hD:=hW _ (by omega) hw;rcases hG.pair i (i+1+k) r _ (by omega) hr hj with ho | hf
   .exact (fU _ ho hD).elim
   .obtain ⟨r5,lV⟩:=hf;obtain⟨bZ,h5,h6⟩:=hw;rw[hj] at h5;injection h5 with h5
    subst h5;rcases lV with lV | lV
    .have h1k:bl r.op=1:=by rw[Io.2];rfl
     simp only[JX,h1k,h6] at lV;cases lV
    .unfold Kj at lV;simp only[Io.1,Io.2] at lV;generalize iI:(rs[i+1+k]).op=q at lV;have We:EU t (r::(rs.take (i+1+k)).drop (i+1))=ydb->ak (bi (i+1+k)) t=ak (bi i) t:=by
      intro azW;have mz:=aa5 azW;rw[show i+1+k=i+(1+k) by omega];refine J0 hG.run (1+k) (by omega) (fun l rl g1 g2 zx=>mz rl ?_);rcases vK g1 with rfl | g1
      .rw [hr] at zx;injection zx with zx;subst zx;exact wA
      .refine xM _ ?_
       have:((rs.take (i+1+k)).drop (i+1))[l-(i+1)]? =Gp rl:=by
        rw[List.getElem?_drop,List.getElem?_take_of_lt (by omega),show i+1+(l-(i+1))=l by omega];exact zx
       exact List.mem_of_getElem? this
     unfold fk at aR
     cases hg:ru (bi (i+1+k)) (rs[i+1+k]).guard with
     | none=>simp[hg] at aR
     | some b=>
      cases b with
      | false=>
       simp only[hg,yc,yo] at aR;rw[<-aR.2.1];exact ih
      | true=>
       simp only[hg,iI] at aR;cases q<;>simp only[yD] at lV
       case j0 DI fx xs=>
        simp only[ye] at lV;have iZ:=Ow lV.1;have B9:=We lV.2;simp only[aZ] at aR
        cases fY:eL O.prog O.aJ self (bM (i+1+k)) (bF (i+1+k)) .dyn (ay (bi (i+1+k)) fx) (dN (bi (i+1+k)) xs) with
        | none=>simp[fY] at aR
        | some z=>
         obtain⟨v1,aX,qv⟩:=z;simp only[fY] at aR
         cases hs:qW (bi (i+1+k)) (bM (i+1+k)) aX DI with
         | false=>rw[hs] at aR;cases aR
         | true=>
          rw[hs] at aR;simp only[yu,yc,yo] at aR;obtain⟨_,h8,_⟩:=aR;rw[<-h8,<-B9];exact Tl hs iZ (by rw[B9];exact ih)
       case lP DI nT x v=>
        simp only[ye] at lV;have iZ:=Ow lV.1;have B9:=We lV.2;simp only[aZ] at aR
        split at aR
        .rename_i id off hx
         cases hs:mM (bi (i+1+k)) id DI with
         | false=>rw[hs] at aR;cases aR
         | true=>
          rw[hs] at aR;simp only[yu] at aR;rw[<-B9];exact aaC hs iZ hx aR (by rw[B9];exact ih)
        .cases aR
       case my DI nT b x v=>
        simp only[ye] at lV;have iZ:=Ow lV.1;have B9:=We lV.2;simp only[aZ] at aR
        cases fY:cu (bi (i+1+k)) (bM (i+1+k)) (bF (i+1+k)) (.di nT b x v) with
        | none=>simp[fY] at aR
        | some z=>
         obtain⟨v1,aX,qv⟩:=z;simp only[fY] at aR
         cases hs:(Ht (bi (i+1+k)) (ay (bi (i+1+k)) x) DI||qW (bi (i+1+k)) (bM (i+1+k)) aX DI) with
         | false=>rw[hs] at aR;cases aR
         | true=>
          rw[hs] at aR;simp only[yu,yc,yo] at aR;obtain⟨_,h8,_⟩:=aR;rw[<-h8,<-B9];rcases (uG _ _).mp hs with hs | hs
          .exact anq hs iZ fY (aH _ (by omega)) (by rw[B9];exact ih)
          .exact Tl hs iZ (by rw[B9];exact ih)
  .exact U9 (abW (Km hj hw) aR (aH _ (by omega))).le ih
structure Inv(O:bz)(ops:Array yU)(rs:List aS)(bi:Nat->Env)(bM:Nat->Hp)(bF:Nat->Nat)(D:Nat->Prop)(m0:Mp)(S0:Nat->Prop)(w0:yk)(n0:Nat)(d0:List yao)(st c:Nat)(m:Mp)(S:Nat->Prop)(w:yk)(a:Act):Prop where
 YQ:st<=c
 cn:c<=rs.length
 before:∀i,i<st->lm rs i->D i
 Ip:∀i,st<=i->i<c->¬lm rs i
 cut:c=rs.length\/(lm rs c/\¬D c)
 behind:∀(i:Nat) (r:aS),c<=i->rs[i]? =Gp r->1<=bl r.op->¬D i
 hp:aT O m S w (bM c) (bF c)
 YR:∀id p,m id=Gp p->id<bF st\/∃i,st<=i/\i<c/\D i/\bF i<=id/\id<bF (i+1)
 tm:Sr O rs bi D m S w a
 Ss:b8 m0 S0 w0 (bM 0) m S w (bM c) (bF 0)
 ge:bF 0<=bF c
 size:a.tmps.size=n0
 defers:a.defers=d0
 DJ:st=0\/lm rs (st-1)
 Iq:∀j,j<=c->∀id o,ai (bM j) id=Gp o->id<bF j
end
end
end
section
open Go
section
variable {O:bz}{H:Hint}{ops:Array yU}{π:Nat->Nat}{rs:List aS}{bi:Nat->Env}{bM:Nat->Hp}{bF:Nat->Nat}{vF:Nat->AV}{self:cx}{ro:Option Nat}{Q:uC->Act->yk->Prop}
variable {D D':Nat->Prop}{m0:Mp}{S0:Nat->Prop}{w0:yk}{n0:Nat}{d0:List yao}{st c i:Nat}{m:Mp}{S:Nat->Prop}{w:yk}{a:Act}{r:aS}{o:yU}
def Oy(hG:Aj O H self ops π rs bi bM bF vF)(hI:Inv O ops rs bi bM bF D m0 S0 w0 n0 d0 st c m S w a){x y:Nat}(hx:st<=x)(hxy:x<=y)(hy:y<=c):jE (bM x) (bF x) (bM y) (bF y):=by
 obtain⟨k,rfl⟩:∃k,y=x+k:=⟨y-x,by omega⟩
 have:=hI.cn
 exact Ox hG.run (hI.Iq x (by omega)) k (by omega) (fun j r h1 h2 hr=>Km hr (hI.Ip j (by omega) (by omega)))
def OR(hG:Aj O H self ops π rs bi bM bF vF)(hI:Inv O ops rs bi bM bF D m0 S0 w0 n0 d0 st c m S w a)(hr:rs[i]? =Gp r)(hi:¬D i)(eS:∀j,Ord ops (π j) (π i)->D j)(fU:∀j,Ord ops (π i) (π j)->¬D j)(hD:∀j,D' j↔D j\/j=i)(hd:∀d,r.dst=Gp d->d<a.tmps.size)(hw:¬lm rs i)(B5:bl r.op=0\/i<c){m':Mp}{S':Nat->Prop}{w':yk}{u:yh}(k1:aT O m' S' w' (bM c) (bF c))(k2:dl m m')(k3:∀id p,m' id=Gp p->m id=Gp p\/(st<=i/\i<c/\bF i<=id/\id<bF (i+1)))(k4:af O.ae m' S' w' (vF i) u)(k5:b8 m S w (bM c) m' S' w' (bM c) (bF c)):
  Inv O ops rs bi bM bF D' m0 S0 w0 n0 d0 st c m' S' w' (a.put r.dst u) where
 YQ:=hI.YQ
 cn:=hI.cn
 before j hj FX:=(hD j).2 (.inl (hI.before j hj FX))
 Ip:=hI.Ip
 cut:=hI.cut.imp (fun h=>h) (fun h=>⟨h.1,fun hc=>((hD c).1 hc).elim h.2 (fun e=>hw (e▸h.1))⟩)
 behind j rj hj FY hk FZ:=((hD j).1 FZ).elim (hI.behind j rj hj FY hk) (fun e=>by
  subst e;rw[hr] at FY;injection FY with FY
  subst FY
  rcases B5 with h | h<;>omega)
 hp:=k1
 YR id p hp:=by
  rcases k3 id p hp with h | ⟨h1,h2,h3,h4⟩
  .rcases hI.YR id p h with h | ⟨j,g1,g2,g3,g4,g5⟩
   .exact .inl h
   .exact .inr ⟨j,g1,g2,(hD j).2 (.inl g3),g4,g5⟩
  .exact .inr ⟨i,h1,h2,(hD i).2 (.inr rfl),h3,h4⟩
 tm:=ad7 hG hI.tm hr hi eS fU hD k2 k5.sub (fun b hb=>k5.still b hb) hd k4
 Ss:=hI.Ss.trans (k5.Aq hI.ge)
 ge:=hI.ge
 size:=by rw[OP];exact hI.size
 defers:=by rw[TH];exact hI.defers
 DJ:=hI.DJ
 Iq:=hI.Iq
def ad8(hG:Aj O H self ops π rs bi bM bF vF)(hI:Inv O ops rs bi bM bF D m0 S0 w0 n0 d0 st c m S w a)(hr:rs[c]? =Gp r)(hi:¬D c)(eS:∀j,Ord ops (π j) (π c)->D j)(fU:∀j,Ord ops (π c) (π j)->¬D j)(hD:∀j,D' j↔D j\/j=c)(hd:∀d,r.dst=Gp d->d<a.tmps.size)(hw:lm rs c){m':Mp}{S':Nat->Prop}{w':yk}{u:yh}(k1:aT O m' S' w' (bM (c+1)) (bF (c+1)))(k2:bF c<=bF (c+1))(k4:af O.ae m' S' w' (vF c) u)(k5:b8 m S w (bM c) m' S' w' (bM (c+1)) (bF c)):
  ∃c' Dz,Inv O ops rs bi bM bF D' m0 S0 w0 n0 d0 (c+1) c' m' Dz w' (a.put r.dst u):=by
 have fY:c<rs.length:=(xN.1 hr).1;obtain⟨c',h1,h2,h3,h4⟩:=VH rs (rs.length-(c+1)) (c+1) (by omega);obtain⟨k,rfl⟩:∃k,c'=c+1+k:=⟨c'-(c+1),by omega⟩;have hg:∀k',k'<=k->jE (bM (c+1)) (bF (c+1)) (bM (c+1+k')) (bF (c+1+k')):=fun k' AH=>
  Ox hG.run k1.aH k' (by omega) (fun j r g1 g2 hr=>Km hr (h3 j g1 (by omega)))
 obtain⟨Dz,g1,g2,g3,g4⟩:=OO k1 (hg k (yp _));have hml:dl m m':=fun id p h=>k5.old id p (hI.hp.lt id p h) h
 refine⟨c+1+k,Dz,⟨by omega,h2,?_,h3,?_,?_,g1,fun id p h=>.inl (k1.lt id p h),?_,?_,?_,by rw[OP];exact hI.size,by rw[TH];exact hI.defers,.inr (by simpa using hw),?_⟩⟩
 .intro j hj FX;rcases vK (vT hj) with e | hj
  .exact (hD j).2 (.inr e)
  .rcases vm j st with g | g
   .exact (hD j).2 (.inl (hI.before j g FX))
   .exact (hI.Ip j g hj FX).elim
 .refine h4.imp (fun h=>h) (fun h=>⟨h,fun hc=>?_⟩);obtain⟨rc,YS,B5⟩:=h;rcases (hD _).1 hc with g | g
  .exact hI.behind _ rc (by omega) YS (by omega) g
  .omega
 .intro j rj hj FY hk FZ;rcases (hD j).1 FZ with g | g
  .exact hI.behind j rj (by omega) FY hk g
  .omega
 .exact ad7 hG hI.tm hr hi eS fU hD hml (fun b hb=>g2 b (k5.sub b hb)) (fun b hb=>k5.still b hb) hd (mJ (fun _ _ h=>h) g2 (fun _ _=>rfl) _ _ k4)
 .exact (hI.Ss.trans (k5.Aq hI.ge)).trans (g4 (bF 0))
 .have:=(hg k (yp _)).r7
  have:=hI.ge
  omega
 .intro j hj;rcases vm c j with g | g
  .obtain ⟨k',rfl⟩:∃k',j=c+1+k':=⟨j-(c+1),by omega⟩;exact (hg k' (by omega)).lt
  .exact hI.Iq j g
def apo{q:Op}(h:bl q≠2):j9 q=q:=by
 cases q<;>first
  | rfl
  | exact absurd rfl h
def aa6{x y:aS}{l:List aS}(h:Fe x y l):¬(bl x.op=2/\1<=bl y.op)/\(1<=bl x.op->bl y.op=2->x.guard=Gq/\∃sz ag t,x.op=.ld sz ag (.t t)):=by
 have⟨_,h⟩:=h;have ex:Kj x y l=ydb->x.guard=Gq/\∃sz ag t,x.op=.ld sz ag (.t t):=by
  intro he;unfold Kj at he
  split at he
  .rename_i sz ag t DI fx xs h1 h2 h3;exact⟨h1,sz,ag,t,h2⟩
  .rename_i h1 h2 h3;exact⟨h1,_,_,_,h2⟩
  .rename_i h1 h2 h3;exact⟨h1,_,_,_,h2⟩
  .cases he
 have k2:∀q:Op,bl q<=2:=fun q=>by
  cases q with
  | rS k x lo hi=>cases k<;>simp[bl]
  | len k x=>rcases k with _ | _ | k<;>simp[bl]
  | call md f xs=>cases md<;>simp[bl]
  | _=>simp[bl]
 constructor
 .rintro ⟨h1,h2⟩;rcases h with h | h
  .have:bl y.op=1\/bl y.op=2:=by have:=k2 y.op;lia
   rcases this with e | e<;>(simp only[JX,h1,e] at h;cases h)
  .have ⟨_,sz,ag,t,e⟩:=ex h;rw[e] at h1;cases h1
 .intro h1 h2;rcases h with h | h
  .have:bl x.op=1\/bl x.op=2:=by have:=k2 x.op;lia
   rcases this with e | e<;>(simp only[JX,h2,e] at h;cases h)
  .exact ex h
def apq(hC:pG O self)(hH:fo O H)(hG:Aj O H self ops π rs bi bM bF vF)(hn:H.n<=n0)(hI:Inv O ops rs bi bM bF D m0 S0 w0 n0 d0 st c m S w a)(hr:rs[i]? =Gp r)(ho:ops[π i]? =Gp o)(hi:¬D i)(eS:∀j,Ord ops (π j) (π i)->D j)(fU:∀j,Ord ops (π i) (π j)->¬D j)(hD:∀j,D' j↔D j\/j=i){K:Act->yk->Prop}(hK:∀st' c' m' S' w' a',Inv O ops rs bi bM bF D' m0 S0 w0 n0 d0 st' c' m' S' w' a'->K a' w'):wpOpIn (WF ro) 0 O.P ops Q (π i) K a w:=by
 have cT:=hG.of i r o hr ho;have W6:=arv hG hI.tm hr hi eS fU;have aR:=hG.run.step i r hr;have hd:∀d,r.dst=Gp d->d<a.tmps.size:=by
  rw[cT.dst];exact acO cT.ok (by rw[hI.size];exact hn)
 have lz:=hI.YQ;have ll:1<=bl r.op->i<=c:=by
  intro hk;rcases vm c i with Ir | Ir
  .have B8:i<rs.length:=(xN.1 hr).1;rcases hI.cut with h | ⟨⟨rc,YS,B5⟩,MW⟩
   .omega
   .rcases hG.pair c i rc r Ir YS hr with h | h
    .exact (MW (eS c h)).elim
    .exact ((aa6 h).1 ⟨B5,hk⟩).elim
  .exact Ir
 have hwc:lm rs i->i=c:=by
  intro hw;obtain⟨bZ,h1,h2⟩:=hw;rw[hr] at h1;injection h1 with h1
  subst h1;have h3:=ll (by omega);rcases vK h3 with e | h3
  .exact e
  .rcases vm i st with g | g
   .exact (hi (hI.before i g ⟨r,hr,h2⟩)).elim
   .exact (hI.Ip i g h3 ⟨r,hr,h2⟩).elim
 have aH:1<=bl r.op->¬lm rs i->i<c:=by
  intro hk hw;rcases vK (ll hk) with e | h
  .subst e;rcases hI.cut with h | h
   .have B8:i<rs.length:=(xN.1 hr).1;omega
   .exact (hw h.1).elim
  .exact h
 have B5:¬lm rs i->bl r.op=0\/i<c:=fun hw=>by
  rcases xq (bl r.op) with h | h
  .exact .inl h
  .exact .inr (aH h hw)
 unfold wpOpIn;simp only[ho];unfold fk at aR
 cases Su:ru (bi i) r.guard with
 | none=>simp[Su] at aR
 | some b=>
  have YP:=abT cT.guard (fun t ht=>W6 t (by simp[Ey,ht])) Su;rw[YP]
  cases b with
  | false=>
   simp only[Su,yc,yo] at aR;obtain⟨hv,hh,hc⟩:=aR;simp only[yD,xz];refine⟨fun _ _=>trivial,?_⟩;have dU:∀m S w,af O.ae m S w (vF i) undef:=fun m S w=>by rw[<-hv];simp[af,aA,undef]
   rw[<-cT.dst];rcases uX (lm rs i) with hw | hw
   .have e:=hwc hw;subst e;obtain⟨c',Dz,h⟩:=ad8 hG hI hr hi eS fU hD hd hw (m':=m) (S':=S) (w':=w) (u:=undef) (by rw[<-hh,<-hc];exact hI.hp) (by omega) (dU _ _ _) (by rw[<-hh];exact b8.refl)
    exact hK _ _ _ _ _ _ h
   .exact hK _ _ _ _ _ _ (OR hG hI hr hi eS fU hD hd hw (B5 hw) (m':=m) (S':=S) (w':=w) (u:=undef) hI.hp dl.refl (fun _ _ h=>.inl h) (dU _ _ _) b8.refl)
  | true=>
   simp only[Su] at aR;simp only[xP];have mz:=aaB cT.op aR;have M8:bX O m S w (bc (bi i) (kT r.op)) a.tmps:=fun t=>by
    rcases uX (t∈kT r.op) with h | h
    .rw [OQ h];exact W6 t (by simp[Ey,h])
    .have:ak (bc (bi i) (kT r.op)) t=.undef:=by
      clear W6 aR;revert h;generalize kT r.op=l;intro h
      induction l with
      | nil=>rfl
      | cons x l ih=>
       simp only[bc,ak];have hx:yq x t=ydc:=by
        cases hq:yq x t with
        | false=>rfl
        | true=>exact absurd (by rw[yg hq];exact wA) h
       rw[hx];exact ih (fun h'=>h (xM _ h'))
     rw[this];simp only[af]
   have AS:aZ O.prog O.aJ self (bc (bi i) (kT r.op)) (bM i) (bF i) (j9 r.op)=Gp (vF i,bM (i+1),bF (i+1)):=
    anp (fun t ht=>OQ ht) aR
   have aeX:¬lm rs i->j9 r.op=r.op:=fun hw=>apo (fun h=>hw ⟨r,hr,h⟩)
   have now:¬lm rs i->bj (bc (bi i) (kT r.op)) (bM c) r.op=Gp (vF i)->Oper.wpIn (WF ro) 0 O.P o a w K Q:=by
    intro hw fN;by_cases DG:∃n sz z ps,r.op=.p9 n sz z ps
    .obtain ⟨n,sz,z,ps,DG⟩:=DG;have qj:bl r.op=0:=by rw[DG];rfl
     have azX:aZ O.prog O.aJ self (bc (bi i) (kT r.op)) (bM c) (bF c) r.op=Gp (vF i,bM c,bF c):=by
      rw[DG] at fN ⊢;simp only[aZ,fN]
     refine quiet_step (Hq:=bM c) (cH:=bF c) hC hH (by omega) cT.op mz azX cN.refl (yp _) hI.hp.aH (fun id h1 h2=>by omega) M8 hI.hp (fun u m' S' w' k1 k2 k3 k4 k5=>?_);rw[<-cT.dst];exact hK _ _ _ _ _ _ (OR hG hI hr hi eS fU hD hd hw (.inl qj) k1 k2 (fun id p h=>.inl ((k3 id p h).resolve_right (by omega))) k4 k5)
    have iI:∃k,r.op=aP O.P H k o:=by
     rcases cT.op with h | ⟨cc,f,rr,_,_,h⟩ | ⟨_,_,_,_,_,_,_,h⟩ | ⟨_,_,_,_,_,_,_,h⟩ | ⟨_,_,_,_,_,_,h⟩ | ⟨_,_,_,_,_,_,h⟩
     .exact h
     .rw [h] at fN;simp[bj] at fN
     .rw [h] at fN;simp[bj] at fN
     .rw [h] at fN;simp[bj] at fN
     .rw [h] at fN;simp[bj] at fN
     .exact (DG ⟨_,_,_,_,h⟩).elim
    obtain⟨k,hk⟩:=iI;rw[hk] at fN;rw[hk] at M8;obtain⟨u,h1,h2⟩:=adT hH M8 hI.hp fN;refine GW mz h1 (.inl rfl) ?_;rw[<-cT.dst];exact hK _ _ _ _ _ _ (OR hG hI hr hi eS fU hD hd hw (B5 hw) hI.hp dl.refl (fun _ _ h=>.inl h) h2 b8.refl)
   rcases uX (lm rs i) with hw | hw
   .have e:=hwc hw;subst e;refine acN hC hH (amn cT.op) mz AS M8 hI.hp (fun u m' S' w' k1 k2 k3 k4=>?_);rw[<-cT.dst];obtain⟨c',Dz,h⟩:=ad8 hG hI hr hi eS fU hD hd hw k1 k2 k3 k4;exact hK _ _ _ _ _ _ h
   .rcases xq (bl r.op) with hk | hk
    .have AS:=aeX hw▸AS;obtain⟨h1,_,_⟩:=acP (.inl hk) AS;exact now hw (by rw[ang hk (bM c) (bM i)];exact h1)
    .have Ig:=aH hk hw;rcases vm i st with W7 | W7
     .
      rcases hI.DJ with h0 | h0
      .omega
      .have aX:D (st-1):=hI.before _ (by omega) h0;have eI:i≠st-1:=fun e=>hi (e▸aX)
       obtain⟨rp,hrp,lX⟩:=h0;rcases hG.pair i (st-1) r rp (by omega) hr hrp with h | h
       .exact (fU _ h aX).elim
       .obtain ⟨hg,sz,ag,t,iI⟩:=(aa6 h).2 hk lX;have hl:=aap (c:=c) hG hr hi ⟨hg,iI⟩ hI.cn (fun j hj FX=>by
         rcases vm j st with g | g
         .exact hI.before j g FX
         .exact (hI.Ip j g hj FX).elim) fU hI.Iq (c-(i+1)) (by omega)
        rw[show i+1+(c-(i+1))=c by omega] at hl;refine now hw ?_;rw[iI];simp only[bj,ay];rw[OQ (by simp[kT,j8])];exact hl
     .have jw:=Oy hG hI (x:=i+1) (y:=c) (by omega) Ig (yp _);have Ca:=Oy hG hI (x:=st) (y:=i) (yp _) W7 (by omega)
      refine quiet_step (Hq:=bM c) (cH:=bF c) hC hH (Km hr hw) cT.op mz (aeX hw▸AS) jw.le jw.r7 (hI.Iq i (by omega)) ?_ M8 hI.hp (fun u m' S' w' k1 k2 k3 k4 k5=>?_)
      .intro id h1 h2
       cases hm:m id with
       | none=>rfl
       | some p=>
        rcases hI.YR id p hm with h | ⟨j,q1,q2,q3,q4,q5⟩
        .have:=Ca.r7;omega
        .rcases Nat.lt_trichotomy j i with g | g | g
         .have:=(Oy hG hI (x:=j+1) (y:=i) (by omega) g (by omega)).r7;omega
         .subst g;exact (hi q3).elim
         .have:=(Oy hG hI (x:=i+1) (y:=j) (by omega) g (by omega)).r7;omega
      .rw [<-cT.dst];exact hK _ _ _ _ _ _ (OR hG hI hr hi eS fU hD hd hw (.inr Ig) k1 k2 (fun id p h=>(k3 id p h).imp (fun h=>h) (fun h=>⟨W7,Ig,h.1,h.2⟩)) k4 k5)
def left(n:Nat)(listed:Array Bool):Nat:=(List.range n).countP fun i=> !listed.getD i ydc
def apr{n:Nat}{listed:Array Bool}{i:Nat}(hi:i<n)(hs:listed.size=n)(hl:listed.getD i ydb=ydc):left n (listed.setIfInBounds i ydb)+1=left n listed:=by
 have key:∀(l:List Nat),l.Nodup->(i∈l->(l.countP fun j=> !(listed.setIfInBounds i ydb).getD j ydc)+1=l.countP fun j=> !listed.getD j ydc)/\(i∉l->(l.countP fun j=> !(listed.setIfInBounds i ydb).getD j ydc)=l.countP fun j=> !listed.getD j ydc):=by
  intro l
  induction l with
  | nil=>intro _;exact⟨fun h=>(by cases h),fun _=>rfl⟩
  | cons x l ih=>
   intro mz;have hx:x≠i->(listed.setIfInBounds i ydb).getD x ydc=listed.getD x ydc:=fun h=>getD_set_ne ydc (ycJ h)
   refine⟨fun hm=>?_,fun hm=>?_⟩
   .rw [ybw,ybw];by_cases e:x=i
    .simp_all
    .grind
   .grind
 exact (key _ List.nodup_range).1 (wW.2 hi)
def anr{n:Nat}{listed:Array Bool}(h:left n listed=0):∀i,i<n->listed.getD i ydc=ydb:=by
 unfold left at h
 simp_all
def ans{listed:Array Bool}(hs:listed.size=ops.size)(hb:∀(i:Nat) (o:yU),ops[i]? =Gp o->∀e,e∈o.after->Region.binds .any e=ydb->e.on<i)(h:Region.ready .any ops listed=[]):∀i,i<ops.size->listed.getD i ydc=ydb:=by
 intro i
 induction i using vP with
 | _ i ih=>
  intro hi
  cases hq:listed.getD i ydc with
  | true=>rfl
  | false=>
   have:i∈Region.ready .any ops listed:=by
    refine mem_ready.2 ⟨?_,ops[i],by simp[hi],fun e he zu=>?_⟩
    .have aH:i<listed.size:=by lia
     simp only[wq,aH,uQ,wV] at hq ⊢;exact hq
    .have:=hb i ops[i] (by simp[hi]) e he zu
     exact ih e.on this (by lia)
   rw[h] at this;cases this
def arw(hG:Aj O H self ops π rs bi bM bF vF)(hI:Inv O ops rs bi bM bF D m0 S0 w0 n0 d0 st c m S w a)(iY:∀i,i<rs.length->D i):
  aT O m S w (bM rs.length) (bF rs.length)/\bX O m S w (bi rs.length) a.tmps/\b8 m0 S0 w0 (bM 0) m S w (bM rs.length) (bF 0)/\bF 0<=bF rs.length:=by
 have hc:c=rs.length:=by
  rcases hI.cut with h | ⟨⟨r,h1,_⟩,h2⟩
  .exact h
  .exact (h2 (iY c (xN.1 h1).1)).elim
 subst hc;refine⟨hI.hp,fun t=>?_,hI.Ss,hI.ge⟩;obtain⟨j,h1,h2,h3⟩:=hI.tm t;obtain⟨k,hk⟩:∃k,rs.length=j+k:=⟨rs.length-j,by omega⟩
 have:=J0 (t:=t) (i:=j) hG.run k (by omega) (fun l r g1 g2 hl hd=>by
  have:=(h2 l r hl hd).1 (iY l (xN.1 hl).1)
  omega)
 rw[<-hk] at this;rw[this];exact h3
structure KD(n:Nat)(π:Nat->Nat):Prop where
 inj:∀i j,π i=π j->i=j
 sur:∀x,x<n->∃i,i<n/\π i=x
 lt:∀i,i<n->π i<n
def auj(hC:pG O self)(hH:fo O H)(hG:Aj O H self ops π rs bi bM bF vF)(hπ:KD ops.size π)(hn:H.n<=n0)(hQ:∀a' m' S' w',aT O m' S' w' (bM rs.length) (bF rs.length)->bF 0<=bF rs.length->bX O m' S' w' (bi rs.length) a'.tmps->b8 m0 S0 w0 (bM 0) m' S' w' (bM rs.length) (bF 0)->a'.tmps.size=n0->a'.defers=d0->Q .normal a' w'):
  ∀(bm:Nat) (listed:Array Bool) (st c:Nat) (m:Mp) (S:Nat->Prop) (w:yk) (a:Act),listed.size=ops.size->left ops.size listed=bm->VG ops (fun i=>listed.getD i ydc=ydb)->
   Inv O ops rs bi bM bF (fun i=>listed.getD (π i) ydc=ydb) m0 S0 w0 n0 d0 st c m S w a->wpAnyIn (WF ro) 0 O.P .any ops Q bm listed a w:=by
 have fin:∀(listed:Array Bool) (st c:Nat) (m:Mp) (S:Nat->Prop) (w:yk) (a:Act),Inv O ops rs bi bM bF (fun i=>listed.getD (π i) ydc=ydb) m0 S0 w0 n0 d0 st c m S w a->(∀i,i<ops.size->listed.getD i ydc=ydb)->Q .normal a w:=by
  intro listed st c m S w a hI iY;obtain⟨h1,h2,h3,h4⟩:=arw hG hI (fun i hi=>iY _ (hπ.lt i (by rw[<-hG.len];exact hi)))
  exact hQ a m S w h1 h4 h2 h3 hI.size hI.defers
 intro bm
 induction bm with
 | zero=>
  intro listed st c m S w a hs hl hc hI;have iY:=anr hl;refine⟨?_,fin listed st c m S w a hI iY⟩;rw[List.eq_nil_iff_forall_not_mem];intro i hm;obtain⟨h1,o,ho,_⟩:=mem_ready.1 hm;have hi:=(xC.1 ho).1
  have:=iY i hi
  have aH:i<listed.size:=by omega
  simp only[wq,aH,uQ,wV] at h1 this;rw[this] at h1;cases h1
 | succ bm ih=>
  intro listed st c m S w a hs hl hc hI;refine⟨fun h=>fin listed st c m S w a hI (ans hs hG.back h),fun x hm=>?_⟩;obtain⟨h1,o,ho,h2⟩:=mem_ready.1 hm;have hx:x<ops.size:=(xC.1 ho).1;obtain⟨i,hi,rfl⟩:=hπ.sur x hx;have hr:rs[i]? =Gp (rs[i]'(by rw[hG.len];exact hi)):=by simp[hG.len,hi]
  have aH:π i<listed.size:=by omega
  have hni:¬listed.getD (π i) ydc=ydb:=by
   simp only[wq,aH,uQ,wV] at h1 ⊢;rw[h1];simp
  have YT:∀y,(listed.setIfInBounds (π i) ydb).getD y ydc=ydb↔listed.getD y ydc=ydb\/y=π i:=by
   intro y;by_cases e:y=π i
   .subst e;simp[aH]
   .rw [getD_set_ne ydc (ycJ e)];simp[e]
  have hD:∀j,(listed.setIfInBounds (π i) ydb).getD (π j) ydc=ydb↔listed.getD (π j) ydc=ydb\/j=i:=by
   intro j;rw[YT];exact or_congr Iff.rfl ⟨fun e=>hπ.inj _ _ e,fun e=>by rw[e]⟩
  refine apq (D:=fun i=>listed.getD (π i) ydc=ydb) hC hH hG hn hI hr ho hni (fun j hj=>abV hc (π i) o ho h2 (π j) hj) (fun j hj FZ=>?_) hD (fun st' c' m' S' w' a' YU=>ih (listed.setIfInBounds (π i) ydb) st' c' m' S' w' a' (by simp[hs]) ?_ ?_ YU)
  .have hjl:π j<ops.size:=by
    rcases vm (π j) ops.size with h | h
    .exact h
    .rw [wq,yaF (by omega)] at FZ;simp at FZ
   exact hni (apm hc (show ops[π j]? =Gp ops[π j] by simp[hjl]) FZ hj)
  .have:=apr hx hs h1
   omega
  .intro j oj M9 hj e he hb;rw[YT];rcases (YT j).1 hj with g | g
   .exact .inl (hc j oj M9 g e he hb)
   .subst g;rw[ho] at M9;injection M9 with M9
    subst M9;exact .inl (h2 e he hb)
end
end
section
open Go
section
variable {pm:List Nat}{n:Nat}{P:xx}{s s':St}
def amp{F:Fence}{Q:uC->Act->yk->Prop}{a:Act}{w:yk}{c:vz}(h:c.wpIn F n P Q a w)(hg:∀l a w,¬Q (.goto l) a w):(Code.scope c).wpIn F n P Q a w:=by
 intro b k cs cT hb hr;have h0:(lone (b.atR a (.code (.scope c)::k)) cs w).fenced P F:=fenced_calm hb hr rfl;have s0:step P (lone (b.atR a (.code (.scope c)::k)) cs w)=.next (lone (b.atR a (.code c:: .inScope c::k)) cs w):=step_lone_go (by simp[stepG,stepG.exec,Frame.atR]);have⟨e,a₁,w₁,hq,Fb⟩:=h b (.inScope c::k) cs cT hb hr;have hx:∀id,exitTo id (.inScope c::k)=exitTo id k:=fun id=>by simp[exitTo]
 cases e with
 | normal=>
  have s1:step P (lone (b.atR a₁ (.inScope c::k)) cs w₁)=.next (lone (b.atR a₁ k) cs w₁):=step_lone_go (by simp[stepG,stepG.exec,Frame.atR]);exact⟨.normal,a₁,w₁,hq,.head h0 s0 (StepsIn.trans Fb (.one (fenced_calm hb hr rfl) s1))⟩
 | exit id=>
  exact⟨.exit id,a₁,w₁,hq,fun k' hk=>.head h0 s0 (Fb.1 k' (by rw[hx];exact hk)),fun bg hk=>let ⟨k₁,h1,h2⟩:=Fb.2 bg (by rw[hx];exact hk);⟨k₁,h1,.head h0 s0 h2⟩⟩
 | goto l=>exact (hg _ _ _ hq).elim
 | ret=>exact⟨_,a₁,w₁,hq,.of_steps (.one h0 s0) Fb⟩
 | panic ch=>exact⟨_,a₁,w₁,hq,.of_steps (.one h0 s0) Fb⟩
 | outgrown=>exact⟨_,a₁,w₁,hq,.of_steps (.one h0 s0) Fb⟩
def za:Ex->uC
 | .normal=>.normal
 | .ret=>.ret
 | .exit id=>.exit id
def Marks(lo:Nat)(S:Nat->Prop)(w:yk)(ds:List yao):Prop:=∃rs:List Nat,ds=rs.map (fun r=>{target:=.collected r,args:=#[]})/\rs.Nodup/\
 ∀r,r∈rs->w.heap[r]? =Gp (.deferred (Gp []))/\¬S r/\lo<=r
def Br(ro:Option Nat)(w:yk):Prop:=∀l,ro=Gp l->∃r:uV,w.heap[l]? =Gp (.loop r)
section
variable {O:bz}{m:Mp}{S:Nat->Prop}{w:yk}{hp:Hp}{ct:Nat}
def acQ(hh:aT O m S w hp ct){b:Nat}(h:eB m hp b):∀x,w.heap[b]?≠Gp (.deferred x):=by
 intro x hx;obtain⟨id,o,p,h1,h2,rfl⟩:=h;have h3:=hh.obj id o p h1 h2
 cases o with
 | cells rw pu ex sz cs=>have⟨q,arr,t,g1,g2,_⟩:=h3;rw[h2] at g1;injection g1 with g1;subst g1;rw[hx] at g2;cases g2
 | mp rw ks vs=>have⟨q,es,clock,g1,g2,_⟩:=h3;rw[h2] at g1;injection g1 with g1;subst g1;rw[hx] at g2;cases g2
 | si s pos=>have⟨q,t,g1,g2,_⟩:=h3;rw[h2] at g1;injection g1 with g1;subst g1;rw[hx] at g2;cases g2
 | lp tm ps as_ body st pe=>have⟨q,l,hi,g1,g2,_⟩:=h3;rw[h2] at g1;injection g1 with g1;subst g1;rw[hx] at g2;cases g2
def Cu(hh:aT O m S w hp ct){m':Mp}{S':Nat->Prop}{w':yk}{an:Hp}{base lo:Nat}(hf:b8 m S w hp m' S' w' an base){ds:List yao}(h:Marks lo S w ds):Marks lo S' w' ds:=by
 have⟨rs,h1,h2,h3⟩:=h;refine⟨rs,h1,h2,fun r hr=>?_⟩;have⟨this,h4,h5⟩:=h3 r hr;have aH:=(xC.1 this).1;have qu:¬eB m hp r:=fun ho=>acQ hh ho _ this
 refine⟨(hf.same r aH qu).trans this,fun hs=>?_,h5⟩;rcases hf.new r hs with h | h | h
 .grind
 .grind
 .lia
def Oz{m':Mp}{S':Nat->Prop}{w':yk}{an:Hp}{base:Nat}{ro:Option Nat}(hf:b8 m S w hp m' S' w' an base)(h:Br ro w):Br ro w':=fun l hl=>
 let ⟨r,hr⟩:=h l hl
 hf.loops l r hr
def fa(O:bz)(m:Mp)(S:Nat->Prop)(w:yk)(s:St)(ex:Ex)(s':St)(n lo:Nat)(e:uC)(a':Act)(w':yk):Prop:=
 e=za ex/\∃m' S',bX O m' S' w' s'.tm a'.tmps/\aT O m' S' w' s'.hp s'.ct/\s'.base=s.base/\s.base<=s'.ct/\b8 m S w s.hp m' S' w' s'.hp s.base/\a'.tmps.size=n/\Marks lo S' w' a'.defers
def C3(O:bz)(h:Nat)(c:vz)(s:St)(ex:Ex)(s':St):Prop:=
 ∀(ro:Option Nat) (lo:Nat) (m:Mp) (S:Nat->Prop) (w:yk) (a:Act),Br ro w->bX O m S w s.tm a.tmps->aT O m S w s.hp s.ct->s.base<=s.ct->(O.hint h).n<=a.tmps.size->O.w0.heap.size<=lo->lo<=w.heap.size->Marks lo S w a.defers->
  c.wpIn (WF ro) 0 O.P (fa O m S w s ex s' a.tmps.size lo) a w
structure iR(O:bz):Prop where
 hint:∀h,fo O (O.hint h)
 mixed:O.P.follows .mixedOrders=ydb
 prog:∀n F,O.prog n=Gp F->∃fn,O.P.funcs[O.ae n]? =Gp fn/\GU O.P (O.hint n) fn=Gp F/\fn.name≠ "runtime.NumGoroutine"
 aJ:∀n sp au r,O.aJ.pure n=Gp sp->sp au=Gp r->eG O n au r
 Hu:∀n sp hp ct au v an aI,O.aJ.heap n=Gp sp->sp hp ct au=Gp (v,an,aI)->C2 O n hp ct au v an aI
def GG{P:xx}{H:Hint}{ops:Array yU}:∀(rs:List aS) (l:List yU) (done:List aS) (ms:List Nat),eR P H ops rs l->eR P H ops (lK done rs ms) l
 | [],l,done,ms,h=>by
  cases ms<;>simpa only[lK] using h
 | r::rs,[],done,ms,h=>by simp[eR] at h
 | r::rs,o::l,done,[],h=>by
  have⟨d,g,op⟩:=r;cases op<;>simpa only[lK] using h
 | r::rs,o::l,done,m::ms,h=>by
  simp only[eR] at h;have⟨h1,h2⟩:=h;have⟨d,g,op⟩:=r
  cases op with
  | j0 DI f xs=>
   simp only[lK,eR];refine⟨?_,GG rs l _ ms h2⟩;rcases h1 with h1 | ⟨_,h1⟩
   .refine .inl ⟨?_,h1.dst,h1.ok,h1.guard⟩;have⟨c,f',g1,g2,g3,g4⟩:=UC h1.op;rw[g3,g4];exact .inr (.inl ⟨c,f',_,g1,g2,rfl⟩)
   .simp [bad] at h1
  | st sz x y=>
   simp only[lK,eR];refine⟨?_,GG rs l _ ms h2⟩;rcases h1 with h1 | ⟨_,h1⟩
   .refine .inl ⟨?_,h1.dst,h1.ok,h1.guard⟩;unfold stOp
    split
    .exact h1.op
    .have ⟨t,x',y',g1,g2,g3,g4⟩:=ax4 h1.op;exact .inr (.inr (.inl ⟨t,x',y',sz,_,g1,g2,by rw[g3,g4]⟩))
   .simp [bad] at h1
  | di sz b x y=>
   simp only[lK,eR];refine⟨?_,GG rs l _ ms h2⟩;rcases h1 with h1 | ⟨_,h1⟩
   .refine .inl ⟨?_,h1.dst,h1.ok,h1.guard⟩;unfold ahh
    split
    .exact h1.op
    .have ⟨k,hk⟩:=aeW h1.op;exact .inr (.inr (.inr (.inl ⟨k,_,sz,b,x,y,hk,rfl⟩)))
   .simp [bad] at h1
  | _=>
   simp only[lK,eR];exact⟨h1,GG rs l _ ms h2⟩
def acR{P:xx}{H:Hint}{ops:Array yU}:∀(rs:List aS) (l:List yU) (done:List aS),eR P H ops rs l->eR P H ops (Hk done rs) l
 | [],[],_,h=>h
 | [],_::_,_,h=>by simp[eR] at h
 | r::rs,[],done,h=>by simp[eR] at h
 | r::rs,o::l,done,h=>by
  simp only[eR] at h;obtain⟨h1,h2⟩:=h;simp only[Hk,eR];refine⟨?_,acR rs l _ h2⟩;obtain⟨d,g,op⟩:=r
  cases op with
  | di sz b x y=>
   simp only
   cases aeS done x with
   | false=>exact h1
   | true=>
    simp only[yu];rcases h1 with h1 | ⟨_,h1⟩
    .refine .inl ⟨?_,h1.dst,h1.ok,h1.guard⟩;obtain⟨k,hk⟩:=aeW h1.op;exact .inr (.inr (.inr (.inr (.inl ⟨k,sz,b,x,y,hk,rfl⟩))))
    .simp [bad] at h1
  | _=>exact h1
end
section
variable {O:bz}{self:cx}
def OS{P:xx}{H:Hint}{ops:Array yU}:∀{rs:List aS} {l:List yU},eR P H ops rs l->rs.length=l.length/\∀(i:Nat) (r:aS) (o:yU),rs[i]? =Gp r->l[i]? =Gp o->E2 P H ops r o\/(r.guard=Gq/\r.op=bad)
 | [],[],_=>⟨rfl,fun i r o h=>by simp at h⟩
 | [],_::_,h=>by simp[eR] at h
 | _::_,[],h=>by simp[eR] at h
 | r::rs,o::l,h=>by
  have⟨h1,h2⟩:=OS h.2;refine⟨by simp[h1],fun i r' o' hr ho=>?_⟩
  cases i with
  | zero=>simp at hr ho;subst hr;subst ho;exact h.1
  | succ i=>exact h2 i r' o' (by simpa using hr) (by simpa using ho)
def arx{H:Hint}{o:yU}{sz:Nat}{z:List AV}{ps:List (Nat×Nat×X)}(hq:oH P H (.kj n sz z ps) o):∃k,Op.kj n sz z ps=aP P H k o:=by
 rcases hq with h | ⟨_,_,_,_,_,h3⟩ | ⟨_,_,_,_,_,_,_,h3⟩ | ⟨_,_,_,_,_,_,_,h3⟩ | ⟨_,_,_,_,_,_,h3⟩ | ⟨_,_,_,_,_,_,h3⟩
 .exact h
 .cases h3
 .cases h3
 .cases h3
 .cases h3
 .cases h3
def acS{P:xx}{H:Hint}{ops:Array yU}{all:List aS}:∀(rs:List aS) (l:List yU),eR P H ops rs l->eR P H ops (EV all rs) l
 | [],[],h=>h
 | [],_::_,h=>by simp[eR] at h
 | r::rs,[],h=>by simp[eR] at h
 | r::rs,o::l,h=>by
  simp only[eR] at h;obtain⟨h1,h2⟩:=h;simp only[EV,eR];refine⟨?_,acS rs l h2⟩;obtain⟨d,g,op⟩:=r
  cases op with
  | kj n sz z ps=>
   simp only
   cases PE d all with
   | false=>exact h1
   | true=>
    simp only[yu];rcases h1 with h1 | ⟨_,h1⟩
    .refine .inl ⟨?_,h1.dst,h1.ok,h1.guard⟩;obtain⟨k,hk⟩:=arx h1.op;exact .inr (.inr (.inr (.inr (.inr ⟨k,n,sz,z,ps,hk,rfl⟩))))
    .simp [bad] at h1
  | _=>exact h1
def C4(l:List yU):List Nat->List yU
 | []=>[]
 | x::r=>match l[x]? with | some o=>o::C4 l r | none=>C4 l r
def Ve{P:xx}{H:Hint}{ops:Array yU}{rs:List aS}{l:List yU}(h:eR P H ops rs l):∀(pm:List Nat),eR P H ops (C0 rs pm) (C4 l pm)
 | []=>trivial
 | x::r=>by
  obtain⟨h1,h2⟩:=OS h;simp only[C0,C4]
  cases hr:rs[x]? with
  | none=>
   have:l[x]? =Gq:=by rw[List.getElem?_eq_none_iff] at hr ⊢;omega
   rw[this];exact Ve h r
  | some q=>
   have aH:=(xN.1 hr).1;have hl:l[x]? =Gp (l[x]'(by omega)):=by rw[xv]
   rw[hl];exact⟨h2 x q _ hr hl,Ve h r⟩
def abX{l:List yU}:∀(pm:List Nat),(∀x,x∈pm->x<l.length)->(C4 l pm).length=pm.length/\∀(i:Nat),(C4 l pm)[i]? =(pm[i]?).bind (l[·]?)
 | [],_=>⟨rfl,fun i=>by simp[C4]⟩
 | x::r,h=>by
  have hx:=h x wA;obtain⟨h1,h2⟩:=abX r (fun y hy=>h y (xM _ hy));have hl:l[x]? =Gp l[x]:=by rw[xv]
  simp only[C4,hl];refine⟨by simp[h1],fun i=>?_⟩
  cases i with
  | zero=>simp[hl]
  | succ i=>simpa using h2 i
def aaD{m:Nat}:∀(pm:List Nat) (k i:Nat),vH (GR m pm k) i=ydb->k<=i/\∃x,pm[i-k]? =Gp x/\vH m x=ydb
 | [],k,i,h=>by simp[GR] at h
 | x::r,k,i,h=>by
  simp only[GR,ybR,uG] at h;rcases h with h | h
  .cases hx:vH m x with
   | false=>simp[hx] at h
   | true=>
    simp only[hx,yu,Nat.testBit_two_pow,vS] at h;subst h;exact⟨yp _,x,by simp,hx⟩
  .obtain ⟨h1,y,h2,h3⟩:=aaD r (k+1) i h;refine⟨by omega,y,?_,h3⟩;rw[show i-k=(i-(k+1))+1 by omega,yaG];exact h2
def aaE{ms pm all:List Nat}:∀(l:List Nat) (j:Nat),(CE ms pm all l)[j]? =(l[j]?).map fun x=>GR (ms.getD x 0) pm 0
 | [],j=>by simp[CE]
 | x::r,0=>by simp[CE]
 | x::r,j+1=>by simpa[CE] using aaE r j
def alL(h:Kz n pm (Ag pm n)=ydb):pm.length=n/\(∀x,x∈pm->x<n)/\KD n (fun i=>pm.getD i i):=by
 simp only[Kz,ye] at h;obtain⟨h1,h2⟩:=h;have hl:=yg h1;have B8:(Ag pm n).length=n:=by simp[Ag]
 have h3:∀i,i<n->pm.getD i i<n/\(Ag pm n).getD i i<n/\(Ag pm n).getD (pm.getD i i) i=i/\pm.getD ((Ag pm n).getD i i) i=i:=fun i hi=>by
  have:=ybv.1 h2 i (wW.2 hi)
  simp only[ye] at this;obtain⟨a,b,c,d⟩:=this;exact⟨qY.1 a,qY.1 b,yg c,yg d⟩
 have out:∀i,n<=i->pm.getD i i=i:=fun i hi=>by rw[xc,List.getElem?_eq_none (by omega)];rfl
 generalize Ag pm n=inv at h3 B8;have ahq:∀(l:List Nat) (i a b:Nat),i<l.length->l.getD i a=l.getD i b:=fun l i a b hi=>by
  rw[xc,xc,xv hi];rfl
 refine⟨hl,fun x hx=>?_,⟨fun i j qw=>?_,fun x hx=>?_,fun i hi=>(h3 i hi).1⟩⟩
 .obtain ⟨i,hi,rfl⟩:=List.getElem_of_mem hx
  have:=(h3 i (by omega)).1
  rwa[xc,xv hi] at this
 .have qw:pm.getD i i=pm.getD j j:=qw;by_cases hi:i<n
  .by_cases hj:j<n
   .have a:=(h3 i hi).2.2.1;have b:=(h3 j hj).2.2.1;rw[qw] at a;rw[ahq inv _ i j (by rw[B8];exact (h3 j hj).1)] at a
    exact a.symm.trans b
   .rw [out j (by omega)] at qw
    have:=(h3 i hi).1
    omega
  .by_cases hj:j<n
   .rw [out i (by omega)] at qw
    have:=(h3 j hj).1
    omega
   .rw [out i (by omega),out j (by omega)] at qw;exact qw
 .obtain ⟨_,b,_,d⟩:=h3 x hx;exact⟨_,b,by show pm.getD _ _=x;rw[ahq pm _ _ x (by omega)];exact d⟩
def aaF{H:Hint}{ops:Array yU}{rs:List aS}{Pp:aE}{L:Lib}{FV:cx}(gP:(n9 ops.toList 0&&qV [] rs (kM [] ops.toList))=ydb)(QH:eR P H ops rs ops.toList)(hv:de Pp L FV rs s=Gp s'):
  ∃rs π,KD ops.size π/\n9 ops.toList 0=ydb/\(rs.length=ops.size/\∀(i:Nat) (r:aS) (o:yU),rs[i]? =Gp r->ops[π i]? =Gp o->E2 P H ops r o\/(r.guard=Gq/\r.op=bad))/\
    (∀(i j:Nat) (x y:aS),i<j->rs[i]? =Gp x->rs[j]? =Gp y->Ord ops (π i) (π j)\/Fe x y ((rs.take j).drop (i+1)))/\de Pp L FV rs s=Gp s':=by
 simp only[ye] at gP;obtain⟨hlen,ai⟩:=OS QH;refine⟨rs,fun i=>i,⟨fun _ _ h=>h,fun x h=>⟨x,h,rfl⟩,fun _ h=>h⟩,gP.1,⟨by rw[hlen];simp,fun i r o hr ho=>ai i r o hr (by simpa using ho)⟩,fun i j x y qw hx hy=>?_,hv⟩
 obtain⟨mm,g1,g2⟩:=Tk (done:=[]) (i:=i) (j:=j) (a:=x) (b:=y) gP.2 (by simpa using hx) hy (by simpa using qw);refine g2.imp (fun g=>?_) (fun g=>by simpa using g);unfold Ord;rw[xc,g1];exact g
def alu{H:Hint}{ops:Array yU}{l:List aS}{zm:List Nat}{Pp:aE}{L:Lib}{FV:cx}(F0:eR P H ops l ops.toList)(YV:CE (kM [] ops.toList) pm pm pm=zm)(q1:n9 ops.toList 0=ydb)(q2:Kz ops.size pm (Ag pm ops.size)=ydb)(q3:qV [] (lK [] (C0 (EV l l) pm) zm) zm=ydb)(hv:de Pp L FV (lK [] (C0 (EV l l) pm) zm) s=Gp s'):
  ∃rs π,KD ops.size π/\n9 ops.toList 0=ydb/\(rs.length=ops.size/\∀(i:Nat) (r:aS) (o:yU),rs[i]? =Gp r->ops[π i]? =Gp o->E2 P H ops r o\/(r.guard=Gq/\r.op=bad))/\
    (∀(i j:Nat) (x y:aS),i<j->rs[i]? =Gp x->rs[j]? =Gp y->Ord ops (π i) (π j)\/Fe x y ((rs.take j).drop (i+1)))/\de Pp L FV rs s=Gp s':=by
 obtain⟨hl,aH,hπ⟩:=alL q2;have h1:=GG _ _ [] zm (Ve (acS (all:=l) _ _ F0) pm);obtain⟨h2,h3⟩:=OS h1;obtain⟨h4,h5⟩:=abX (l:=ops.toList) pm (fun x hx=>by simpa using aH x hx);refine⟨_,_,hπ,q1,⟨by rw[h2,h4,hl],fun i r o hr ho=>h3 i r o hr ?_⟩,fun i j x y qw hx hy=>?_,hv⟩
 .have hi:i<pm.length:=by have:=(xN.1 hr).1;omega
  rw[h5,xv hi,wH];rw[xc,xv hi,wV] at ho;simpa using ho
 .have hj:j<pm.length:=by have:=(xN.1 hy).1;omega
  obtain⟨mm,g1,g2⟩:=Tk (done:=[]) (i:=i) (j:=j) (a:=x) (b:=y) q3 (by simpa using hx) hy (by simpa using qw);refine g2.imp (fun g=>?_) (fun g=>by simpa using g);rw[<-YV,aaE,xv hj,wO,yc] at g1;subst g1;obtain⟨_,z,g3,g4⟩:=aaD _ _ _ g;unfold Ord
  rw[xc (l:=pm),xv hj,wV]
  rw[xc (l:=pm),show pm[i]? =Gp z by simpa using g3,wV];exact g4
def ant{m:Mp}{S:Nat->Prop}{w:yk}{hp:Hp}{ct:Nat}(hh:aT O m S w hp ct):Calm w {w with drawn:=w.drawn+1}:=⟨rfl,rfl,rfl,yp _,fun _ _=>rfl⟩
def auk(hO:iR O)(hC:pG O self)(h:Nat)(id:Nat)(ops:Array yU)(draw:Bool)(k:Nat)(hv:de O.prog O.aJ self (O7 O.P (O.hint h) ops draw k).1 s=Gp s'):C3 O h (.region id ops draw) s .normal s':=by
 intro ro lo m S w a cT ht hh hb hn bh fD cm;unfold O7 at hv;have F0:=aa4 (P:=O.P) (H:=O.hint h) (ops:=ops) ops.toList k;generalize hq:Ep O.P (O.hint h) ops ops.toList k=q at hv F0;obtain⟨l,k'⟩:=q;simp only at hv F0;have post:∀{a':Act} {m':Mp} {S':Nat->Prop} {w':yk},aT O m' S' w' s'.hp s'.ct->s.ct<=s'.ct->bX O m' S' w' s'.tm a'.tmps->b8 m S w s.hp m' S' w' s'.hp s.ct->a'.tmps.size=a.tmps.size->a'.defers=a.defers->s'.base=s.base->fa O m S w s .normal s' a.tmps.size lo .normal a' w':=by
  intro a' m' S' w' h1 h2 h3 h4 h5 h6 h7;exact⟨rfl,m',S',h3,h1,h7,by omega,h4.Aq hb,h5,by rw[h6];exact Cu hh h4 cm⟩
 cases draw with
 | false=>
  simp only[yP] at hv;refine wpIn_region ?_;rw[List.range_eq_range'];have hl:ops.size=ops.toList.length:=by simp
  rw[hl];exact ad5 hC (hO.hint h) ops.toList l 0 s s' a m S w (fun j=>by simp) F0 hv ht hh hn (fun a' m' S' w' h1 h2 h3 h4 h5 h6 h7=>post h1 h2 h3 h4 h5 h6 h7)
 | true=>
  simp only[yu] at hv;have AT:∃rs π,KD ops.size π/\n9 ops.toList 0=ydb/\(rs.length=ops.size/\∀(i:Nat) (r:aS) (o:yU),rs[i]? =Gp r->ops[π i]? =Gp o->E2 O.P (O.hint h) ops r o\/(r.guard=Gq/\r.op=bad))/\
    (∀(i j:Nat) (x y:aS),i<j->rs[i]? =Gp x->rs[j]? =Gp y->Ord ops (π i) (π j)\/Fe x y ((rs.take j).drop (i+1)))/\de O.prog O.aJ self rs s=Gp s':=by
   have QH:=GG l ops.toList [] (kM [] ops.toList) F0
   cases gP:(n9 ops.toList 0&&qV [] (lK [] l (kM [] ops.toList)) (kM [] ops.toList)) with
   | true=>
    rw[gP] at hv;exact aaF gP QH hv
   | false=>
    rw[gP] at hv;simp only[yP] at hv
    cases W8:(n9 ops.toList 0&&qV [] (Hk [] (lK [] l (kM [] ops.toList))) (kM [] ops.toList)) with
    | true=>
     rw[W8] at hv;exact aaF W8 (acR _ _ _ QH) hv
    | false=>
     rw[W8] at hv;simp only[yP] at hv;generalize hpm:places l (kM [] ops.toList)=pm at hv;generalize YV:CE (kM [] ops.toList) pm pm pm=zm at hv
     cases QI:(n9 ops.toList 0&&(Kz ops.size pm (Ag pm ops.size)&&qV [] (lK [] (C0 (EV l l) pm) zm) zm)) with
     | false=>
      rw[QI] at hv;simp[de,bad,aZ,eL,ay] at hv
     | true=>
      rw[QI] at hv;simp only[yu] at hv;simp only[ye] at QI;obtain⟨q1,q2,q3⟩:=QI;exact alu F0 YV q1 q2 q3 hv
  clear hv;obtain⟨rs,π,hπ,ax5,⟨hlen,ai⟩,ax6,hv⟩:=AT
  .obtain ⟨bi,bM,bF,vF,hR,e1,e2,e3,e4,e5,e6,e7⟩:=ad6 hv;have hG:Aj O (O.hint h) self ops π rs bi bM bF vF:=by
    refine⟨hR,hlen,fun i r o hr ho=>?_,ax6,fun i o ho e he hbd=>?_⟩
    .rcases ai i r o hr ho with g | ⟨g1,g2⟩
     .exact g
     .have:=hR.step i r hr
      simp[fk,g1,ru,g2,bad,aZ,eL,ay] at this
    .have:=aak ax5 (j:=i) (o:=o) (by simpa using ho) e he hbd
     omega
   refine wpIn_region_any hO.mixed ?_;have Ls:=ant hh;have jg:=Ct hh Ls (S':=S) (fun _ h=>h) (fun _ h=>.inl h) hh.slt
   have r5:b8 m S w s.hp m S {w with drawn:=w.drawn+1} s.hp (bF 0):=Bj hh Ls (fun _ h=>h) (fun _ h=>.inl h);obtain⟨c,c1,c2,c3,c4⟩:=VH rs rs.length 0 (by omega);have hg:∀k',k'<=c->jE (bM 0) (bF 0) (bM (0+k')) (bF (0+k')):=fun k' AH=>
    Ox hR (by rw[e2,e3];exact hh.aH) k' (by omega) (fun j r g1 g2 hr=>Km hr (c3 j g1 (by omega)))
   have jw:=hg c (yp _);rw[yd] at jw;obtain⟨S1,g1,g2,g3,g4⟩:=OO (by rw[e2,e3];exact jg:aT O m S {w with drawn:=w.drawn+1} (bM 0) (bF 0)) jw
   have Ah:∀i,(uD ops.size ydc).getD i ydc=ydb->False:=fun i hi=>by
    simp only[wq] at hi;by_cases aH:i<ops.size
    .simp [aH] at hi
    .rw [yaF (by simpa using aH)] at hi;simp at hi
   refine auj (m0:=m) (S0:=S) (w0:=w) (n0:=a.tmps.size) (d0:=a.defers) hC (hO.hint h) hG hπ hn (fun a' m' S' w' h1 h2 h3 h4 h5 h6=>?_) ops.size _ 0 c m S1 _ a (by simp) ?_ (fun j o _ hj=>(Ah j hj).elim) ?_
   .rw [e5,e6] at h1;rw[e3,e6] at h2;rw[e4] at h3;rw[e2,e3,e5] at h4;exact post h1 h2 h3 h4 h5 h6 e7
   .unfold left;rw[List.countP_eq_length.2]
    .simp
    .intro i hi;simp only[vR]
     cases hq:(uD ops.size ydc).getD i ydc with
     | false=>rfl
     | true=>exact (Ah i hq).elim
   .refine ⟨tk _,c2,fun i hi=>by omega,c3,c4.imp (fun h=>h) (fun h=>⟨h,fun hd=>Ah _ hd⟩),fun i r _ _ _ hd=>Ah _ hd,g1,fun id p hp=>.inl (by rw[e3];exact hh.lt id p hp),fun t=>⟨0,tk _,fun i r _ _=>⟨fun hd=>(Ah _ hd).elim,fun h=>by omega⟩,?_⟩,?_,jw.r7,rfl,rfl,.inl rfl,fun j hj=>?_⟩
    .rw [e1];exact mJ (fun _ _ h=>h) (fun b hb=>g2 b hb) (fun b hb=>Ls.same b (hh.slt b hb)) _ _ (ht t)
    .rw [e2];have g5:=g4 (bF 0);rw[e2] at g5;exact r5.trans g5
    .have:=(hg j hj).lt
     rw[yd] at this;exact this
end
end
end
section
open Go
section
variable {ps:List Nat}{b l:Nat}{P:xx}
section
variable {O:bz}{m:Mp}{S:Nat->Prop}{w:yk}{hp:Hp}{ct:Nat}
def aa7(hh:aT O m S w hp ct){g:Nat}{w':yk}(hw:One w w' g)(hg:¬S g)(ho:¬eB m hp g)(bh:O.w0.heap.size<=g):aT O m S w' hp ct:=by
 have aR:gm S w w':=fun b hb=>hw.other b (fun e=>hg (e▸hb))
 refine⟨fun id o p h1 h2=>?_,hh.lt,hh.inj,fun b hb=>by rw[hw.size];exact hh.slt b hb,fun id p h=>by rw[hw.size];exact hh.blt id p h,hh.low,fun b hb=>?_,by rw[hw.size];exact hh.gI,hh.aH⟩
 .exact zR (fun _ _ h=>h) (fun _ h=>h) aR (fun q hq=>hw.other _ (fun e=>ho ⟨id,o,q,h1,hq,e⟩)) (fun _ _ h=>h) (hh.obj id o p h1 h2)
 .rw [hw.other b (by lia)];exact hh.mS b hb
def aa8{o:yan}(h:w.heap[b]? =Gp o)(hc:∀c t f,o≠.cells c t f):(getObj b).run P w=.ok o w:=by
 simp only[getObj,Sem.run,h]
def Od{o x:yan}(h:w.heap[b]? =Gp o)(hc:∀c t f,o≠.cells c t f):(setObj b x).run P w=.ok () {w with heap:=w.heap.setIfInBounds b x}:=by
 simp only[setObj,Sem.run,h]
def JO{r:uV}(h:w.heap[b]? =Gp (.loop r)):(Instr.getLoop b).run P w=.ok r w:=by
 simp only[Instr.getLoop,Sem.run_bind,aa8 (P:=P) h (fun _ _ _=>by simp),Result.andThen_ok,Sem.run_pure]
def Kn(hh:aT O m S w hp ct){tm:Env}{as_ body:VC}{st:Nat}{pe:sY}{p:Pl}(hg:ai hp l=Gp (.lp tm ps as_ body st pe))(hm:m l=Gp p):
  ∃(r:uV) (h:Nat),w.heap[p.b]? =Gp (.loop r)/\¬S p.b/\r.state=Da st/\st<=2/\r.pending=Bq pe/\bX O m S w tm r.tmps/\r.params.toList=ps/\Dy O.P (O.hint h) as_ r.assign/\Dy O.P (O.hint h) body r.body/\
   (O.hint h).n<=r.tmps.size/\Bw (O.hint h).n ps=ydb:=by
 have⟨q,r,h,g1,g2,g3⟩:=hh.obj l _ p hg hm
 grind
def abY(hh:aT O m S w hp ct){tm:Env}{as_ body:VC}{st:Nat}{pe:sY}{p:Pl}(hg:ai hp l=Gp (.lp tm ps as_ body st pe))(hm:m l=Gp p){r:uV}(hr:w.heap[p.b]? =Gp (.loop r)){st':Nat}{pe':sY}(h2:st'<=2):
  aT O m S {w with heap:=w.heap.setIfInBounds p.b (.loop {r with state:=Da st',pending:=Bq pe'})} (aU hp l (.lp tm ps as_ body st' pe')) ct/\
  b8 m S w hp m S {w with heap:=w.heap.setIfInBounds p.b (.loop {r with state:=Da st',pending:=Bq pe'})} (aU hp l (.lp tm ps as_ body st' pe')) ct:=by
 have⟨r',h,g1,g2,g3,g4,g5,g6,g7,g8,g9,g10,g11⟩:=Kn hh hg hm;rw[hr] at g1;injection g1 with g1
 injection g1 with g1
 subst g1;have ia:=Gu w p.b (.loop {r with state:=Da st',pending:=Bq pe'})
 refine J9 hh hg hm g2 ia ⟨p,{r with state:=Da st',pending:=Bq pe'},h,hm,N9 hr,g2,rfl,h2,rfl,?_,g7,g8,g9,g10,g11⟩ (fun _ _=>⟨_,N9 hr⟩);exact Cs (fun _ _ h=>h) (fun _ h=>h) (fun b hb=>ia.other b (fun e=>g2 (e▸hb))) g6
def abZ{n:Nat}:∀{ps:List Nat} {vs:List AV} {us:List yh} {tm tm':Env} {tmps:Array yh},ri tm ps vs=Gp tm'->aA O.ae m S w vs us->bX O m S w tm tmps->n<=tmps.size->Bw n ps=ydb->
  ps.length=us.length/\bX O m S w tm' ((ps.zip us).foldl (fun t (x:Nat×yh)=>t.setIfInBounds x.1 x.2) tmps)/\((ps.zip us).foldl (fun t (x:Nat×yh)=>t.setIfInBounds x.1 x.2) tmps).size=tmps.size
 | [],[],us,tm,tm',tmps,h,hr,ht,hn,ha=>by
  simp only[ri,yc] at h;simp only[aA] at hr
  simp_all
 | [],_::_,us,tm,tm',tmps,h,hr,ht,hn,ha=>by simp[ri] at h
 | _::_,[],us,tm,tm',tmps,h,hr,ht,hn,ha=>by simp[ri] at h
 | p::ps,v::vs,us,tm,tm',tmps,h,hr,ht,hn,ha=>by
  simp only[ri] at h;obtain⟨u,t,rfl,h1,h2⟩:=hr;simp only[Bw,ye] at ha;have hp:=qY.1 ha.1;have ht1:bX O m S w ((p,v)::tm) (tmps.setIfInBounds p u):=UF (a:=⟨tmps,[]⟩) (d:=Gp p) ht (fun i hi=>by injection hi with hi;show i<tmps.size;lia) h1
  have⟨g1,g2,g3⟩:=abZ (n:=n) h h2 ht1 (by simpa using hn) ha.2
  simp_all
def aps(ps:Array Tmp)(args:Array yh)(tmps:Array yh):(ps.zip args).foldl (fun tmps (x:Tmp×yh)=>tmps.setIfInBounds x.1 x.2) tmps=(ps.toList.zip args.toList).foldl (fun t (x:Nat×yh)=>t.setIfInBounds x.1 x.2) tmps:=by
 rw[<-Array.foldl_toList,Array.toList_zip]
def alv{r:uV}(h:w.heap[b]? =Gp (.loop r))(jump:Option vz):
  (Instr.endRound b jump).run P w=.ok (.bool jump.isNone) {w with heap:=w.heap.setIfInBounds b (.loop {r with state:=if jump.isNone then .ready else .done,pending:=jump})}:=by
 simp only[Instr.endRound,Sem.run_bind,JO h,Result.andThen_ok,Od (P:=P) h (fun _ _ _=>by simp),Sem.run_pure]
def alf{r:uV}(h:w.heap[b]? =Gp (.loop r))(hs:r.state=.ready):
  (Instr.beginRound b).run P w=.ok () {w with heap:=w.heap.setIfInBounds b (.loop {r with state:=.busy})}:=by
 simp only[Instr.beginRound,Sem.run_bind,JO h,Result.andThen_ok,Od (P:=P) h (fun _ _ _=>by simp),hs,Sem.run_pure]
def apt{self:cx}(hS:∀v s ex s',self v s=Gp (ex,s')->∀c h l k,(comp O.P (O.hint h) c l k).1=v->C3 O h c s ex s'){xs:List AV}{v:AV}{an:Hp}{aI:Nat}(hv:gF self hp ct l xs=Gp (v,an,aI)):aeT O hp ct l xs v an aI:=by
 intro m S w args p hh hm eN;unfold gF at hv
 split at hv
 case h_2=>cases hv
 rename_i tm ps as_ body pe hg;have⟨r,h,g1,g2,g3,g4,g5,g6,g7,⟨ca,ka,g8⟩,⟨cb,kb,g9⟩,g10,g11⟩:=Kn hh hg hm
 cases hb:ri tm ps xs with
 | none=>simp[hb] at hv
 | some tm'=>
  simp only[hb] at hv;have⟨b1,b2,b3⟩:=abZ hb eN g6 g10 g11;rw[<-g7] at b1 b2 b3;have eO:args.size=r.params.size:=by
   grind
  let tmps:Array yh:=(r.params.zip args).foldl (fun tmps (x:Tmp×yh)=>tmps.setIfInBounds x.1 x.2) r.tmps
  have ahr:tmps=(r.params.toList.zip args.toList).foldl (fun t (x:Nat×yh)=>t.setIfInBounds x.1 x.2) r.tmps:=aps _ _ _;refine⟨r.fn,tmps,r.assign,r.body,?_,?_⟩
  .simp only [Instr.yield,Sem.run_bind,JO g1,Result.andThen_ok,eO,ne_eq,ycY,xz,Sem.run_pure];rfl
  refine roundIn_of_wpIn (F:=Fence.wide) trivial ?_
  cases h1:self as_ ⟨tm',hp,ct,ct⟩ with
  | none=>simp[h1] at hv
  | some q=>
   have⟨ex1,s1⟩:=q
   cases ex1 with
   | ret=>simp[h1] at hv
   | exit id=>simp[h1] at hv
   | normal=>
    simp only[h1] at hv;have eJ:=hS _ _ _ _ h1 r.assign h ca ka g8;have cT:∀w',b8 m S w hp m S w' hp ct->Br (Gp p.b) w':=fun w' hf=>Oz hf (fun l hl=>⟨r,by injection hl with hl;subst hl;exact g1⟩)
    refine wpIn_mono (eJ (Gp p.b) w.heap.size m S w ⟨tmps,[]⟩ (cT w b8.refl) (by rw[ahr];exact b2) hh (yp _) (by show _<=tmps.size;rw[ahr,b3];exact g10) hh.gI (yp _) ⟨[],rfl,by simp,by simp⟩) ?_
    rintro e a1 w1 ⟨rfl,m1,S1,k1,k2,k3,k4,k5,k6,k7⟩;simp only[za,Exit.then];have DK:m1 l=Gp p:=k5.old l p (hh.lt l p hm) hm
    split at hv
    case h_2=>cases hv
    rename_i gO qc Dx EW nQ jw;have⟨r1,jg,f1,f2,f3,f4,f5,f6,f7,f8,f9,f10,f11⟩:=Kn k2 jw DK;have YW:=alf (P:=O.P) f1 f3;have⟨q1,q2⟩:=abY k2 jw DK f1 (st':=1) (pe':=nQ) (by lia)
    have dV:({r1 with state:=Da 1,pending:=Bq nQ}:uV)={r1 with state:=.busy}:=by rw[<-f5];rfl
    rw[dV] at q1 q2;refine⟨_,YW,?_⟩
    cases h2:self body ⟨s1.tm,aU s1.hp l (.lp gO qc Dx EW 1 nQ),s1.ct,s1.ct⟩ with
    | none=>simp[h2] at hv
    | some q=>
     have⟨ex,s2⟩:=q;simp only[h2] at hv;have AP:=hS _ _ _ _ h2 r.body h cb kb g9
     have azY:Br (Gp p.b) {w1 with heap:=w1.heap.setIfInBounds p.b (.loop {r1 with state:=.busy})}:=fun l hl=>by
      grind
     have YX:bX O m1 S1 {w1 with heap:=w1.heap.setIfInBounds p.b (.loop {r1 with state:=.busy})} s1.tm a1.tmps:=
      Cs (fun _ _ h=>h) (fun _ h=>h) (fun b hb=>q2.still b hb) k1
     have azZ:(O.hint h).n<=a1.tmps.size:=by
      grind
     refine wpIn_mono (AP (Gp p.b) w.heap.size m1 S1 _ a1 azY YX q1 (yp _) azZ hh.gI (xo k5.size q2.size) (Cu k2 q2 k7)) ?_;rintro e a2 w2 ⟨rfl,m2,S2,j1,j2,j3,j4,j5,j6,j7⟩;have YY:m2 l=Gp p:=j5.old l p (k2.lt l p DK) DK
     split at hv
     case h_2=>cases hv
     rename_i nd rY MU Lp Sv Is;have⟨r2,Na,d1,d2,d3,d4,d5,d6,d7,d8,d9,d10,d11⟩:=Kn j2 Is YY;have az0:b8 m S w hp m2 S2 w2 s2.hp ct:=(k5.trans (q2.Aq k4)).trans (j5.Aq k4);have ahs:ct<=s2.ct:=xo k4 j4;have fin:∀(jump:Option vz) (st':Nat) (pe':sY),Bq pe'=jump->Da st'=(if jump.isNone then .ready else .done)->st'<=2->
       ∃v' w',(Instr.endRound p.b jump).run O.P w2=.ok v' w'/\Bh O m S w hp ct (.bool jump.isNone) (aU s2.hp l (.lp nd rY MU Lp st' pe')) s2.ct (.returned v') w':=by
      intro jump st' pe' e1 e2 e3;have⟨z1,z2⟩:=abY j2 Is YY d1 (st':=st') (pe':=pe') e3;rw[e1,e2] at z1 z2;exact⟨_,_,alv d1 jump,_,m2,S2,rfl,z1,ahs,by simp[af],az0.trans (z2.Aq ahs)⟩
     cases ex with
     | normal=>
      simp only[yc,yo] at hv;obtain⟨rfl,rfl,rfl⟩:=hv;simp only[za,roundPost];exact fin Gq 0 .none rfl rfl (by lia)
     | ret=>
      simp only[PF,yc,yo] at hv;obtain⟨rfl,rfl,rfl⟩:=hv;simp only[za,roundPost];exact fin (Gp .ret) 2 .ret rfl rfl (by lia)
     | exit id=>
      simp only[PF,yc,yo] at hv;obtain⟨rfl,rfl,rfl⟩:=hv;simp only[za,roundPost];exact fin (Gp (.exit id)) 2 (.exit id) rfl rfl (by lia)
end
end
end
section
open Go
section
variable {O:bz}{self:cx}
def GH{P:xx}{f:tS}{fn:yaH}{args:Array yh}{w:yk}(hf:P.funcs[f]? =Gp fn)(hb:fn.body.isSome=ydb)(hn:fn.name≠ "runtime.NumGoroutine"):(callFunc f args).run P w=.ok (.enter f args) w:=by
 have h1:fn.body≠Gq:=fun e=>by rw[e] at hb;cases hb
 simp[callFunc,program,Sem.run,hf,h1,hn]
def Tv{P:xx}{H:Hint}{fn:yaH}{F:az}(h:GU P H fn=Gp F):∃c,fn.body=Gp c/\F.body=(comp P H c 0 0).1/\qX P fn.results.toList=Gp F.dR/\H.n<=fn.ntmps:=by
 unfold GU at h
 split at h
 .rename_i c rs h1 h2
  cases hb:yB H.n fn.ntmps with
  | false=>rw[hb] at h;cases h
  | true=>
   rw[hb] at h;simp only[yu,yc] at h;subst h
   simp_all
 .cases h
def apu{m:Mp}{S:Nat->Prop}{w:yk}{hp:Hp}{ct:Nat}{tm:Env}{a:Act}{ro:Option Nat}(fn:tS)(ps:Array Tmp)(assign body:vz){as_ b':VC}{h:Nat}(hh:aT O m S w hp ct)(ht:bX O m S w tm a.tmps)(cT:Br ro w)(YZ:Dy O.P (O.hint h) as_ assign)(Y0:Dy O.P (O.hint h) b' body)(hn:(O.hint h).n<=a.tmps.size)(ju:Bw (O.hint h).n ps.toList=ydb){lo:Nat}(fD:lo<=w.heap.size)(cm:Marks lo S w a.defers):
  ∃l mark w1,(Instr.enterLoop fn a.tmps ps assign body ro).run O.P w=.ok (l,mark) w1/\aT O (fJ m ct ⟨l,0,0,0⟩) S w1 ((ct,.lp tm ps.toList as_ b' 0 .none)::hp) (ct+1)/\
   b8 m S w hp (fJ m ct ⟨l,0,0,0⟩) S w1 ((ct,.lp tm ps.toList as_ b' 0 .none)::hp) ct/\m ct=Gq/\Marks lo S w1 (mark++a.defers)/\w.heap.size<=l:=by
 have bN:m ct=Gq:=by
  cases hq:m ct with
  | none=>rfl
  | some p=>have:=hh.lt ct p hq;omega
 have lay:∀(w':yk) (d:Nat),Calm w w'->Marks lo S w' a.defers->
   aT O (fJ m ct ⟨w'.heap.size,0,0,0⟩) S (w'.alloc (.loop {state:=.ready,pending:=Gq,fn:=fn,tmps:=a.tmps,params:=ps,assign:=assign,body:=body,defers:=d})) ((ct,.lp tm ps.toList as_ b' 0 .none)::hp) (ct+1)/\
   b8 m S w hp (fJ m ct ⟨w'.heap.size,0,0,0⟩) S (w'.alloc (.loop {state:=.ready,pending:=Gq,fn:=fn,tmps:=a.tmps,params:=ps,assign:=assign,body:=body,defers:=d})) ((ct,.lp tm ps.toList as_ b' 0 .none)::hp) ct:=by
  intro w' d hw aht;have jg:aT O m S w' hp ct:=Ct hh hw (fun _ h=>h) (fun _ h=>.inl h) (fun b hb=>yG (hh.slt b hb) hw.size);have r5:b8 m S w hp m S w' hp ct:=Bj hh hw (fun _ h=>h) (fun _ h=>.inl h);have hg:jE hp ct ((ct,.lp tm ps.toList as_ b' 0 .none)::hp) (ct+1):=by
   refine⟨fun id o ho=>⟨o,?_,jR.refl o⟩,by omega,fun id o ho=>?_,fun id o ho hi=>?_⟩
   .rw [fG,yr (by have:=hh.aH id o ho;omega)];exact ho
   .rw [fG] at ho;by_cases hc:ct=id
    .omega
    .simp only [hc,xz] at ho;have:=hh.aH id o ho;omega
   .rw [fG,yr (by omega)] at ho;exact⟨o,ho⟩
  have cG:∀i q,ai ((ct,Obj.lp tm ps.toList as_ b' 0 .none)::hp) i=Gp q->i≠ct->ai hp i=Gp q:=fun i q h hi=>by
   rw[fG,yr (fun e=>hi e.symm)] at h;exact h
  have Na:aT O m S w' ((ct,.lp tm ps.toList as_ b' 0 .none)::hp) (ct+1):=by
   have eI:∀id p,m id=Gp p->id≠ct:=fun id p hm e=>by have:=hh.lt id p hm;omega
   exact⟨fun id o p ho hm=>jg.obj id o p (cG id o ho (eI id p hm)) hm,fun id p hm=>by have:=hh.lt id p hm;omega,
    fun i j oi oj pi pj hi hj bN ik e=>jg.inj i j oi oj pi pj (cG i oi hi (eI i pi bN)) (cG j oj hj (eI j pj ik)) bN ik e,jg.slt,jg.blt,jg.low,jg.mS,jg.gI,hg.lt⟩
  have qt:fp O (fJ m ct ⟨w'.heap.size,0,0,0⟩) S (w'.alloc (.loop {state:=.ready,pending:=Gq,fn:=fn,tmps:=a.tmps,params:=ps,assign:=assign,body:=body,defers:=d})) ct (.lp tm ps.toList as_ b' 0 .none):=by
   refine⟨⟨w'.heap.size,0,0,0⟩,_,h,dL,heap_alloc_new w' _,?_,rfl,by omega,rfl,?_,rfl,YZ,Y0,hn,ju⟩
   .intro hS
    have:=jg.slt _ hS
    simp at this
   .exact Cs (jX bN) (fun _ h=>h) (fun b hb=>(JQ jg _ b hb).trans (hw.same b (hh.slt b hb))) ht
  obtain⟨S',k1,k2,k3⟩:=Uz (i:=ct) (p:=⟨w'.heap.size,0,0,0⟩) Na bN (by omega) rfl (fun o ho=>by
   rw[fG] at ho;simp only[xP,yc] at ho;subst ho
   exact .inl ⟨qt,by simp[jC]⟩)
  have k1':aT O (fJ m ct ⟨w'.heap.size,0,0,0⟩) S (w'.alloc (.loop {state:=.ready,pending:=Gq,fn:=fn,tmps:=a.tmps,params:=ps,assign:=assign,body:=body,defers:=d})) ((ct,.lp tm ps.toList as_ b' 0 .none)::hp) (ct+1):=by
   have M0:∀id q,m id=Gp q->q.b≠w'.heap.size:=fun id q hq=>by have:=jg.blt id q hq;lia
   refine⟨?_,k1.lt,k1.inj,fun b hb=>k1.slt b (k2 b hb),k1.blt,k1.low,k1.mS,k1.gI,k1.aH⟩;intro id o q ho hm;by_cases hc:id=ct
   .subst hc;rw[fG] at ho
    grind
   .rw [eE hc] at hm;exact zR (jX bN) (fun _ h=>h) (JQ jg _) (fun q' bP=>alloc_old (jg.blt id q' bP)) (fun _ _ h=>h) (jg.obj id o q (cG id o ho hc) hm)
  refine⟨k1',r5.trans ⟨rfl,rfl,rfl,by simp,fun b hb _=>alloc_old hb,fun _ h=>h,fun b hb=>JQ jg _ b hb,fun b hb=>.inl hb,?_,fun i q _ hq=>jX bN i q hq,fun b r hb=>⟨r,(alloc_old (xC.1 hb).1).trans hb⟩⟩⟩;rintro b ⟨i,o,q,g1,g2,g3⟩;by_cases hc:i=ct
  .subst hc;rw[dL] at g2
   grind
  .rw [eE hc] at g2;exact .inl ⟨i,o,q,cG i o g1 hc,g2,g3⟩
 cases ro with
 | none=>
  have Ls:Calm w (w.alloc (.deferred (Gp []))):=⟨rfl,rfl,rfl,by simp,fun b hb=>alloc_old hb⟩;have⟨rs,r1,r2,r3⟩:=cm;have az1:Marks lo S (w.alloc (.deferred (Gp []))) a.defers:=⟨rs,r1,r2,fun r hr=>⟨(alloc_old (xC.1 (r3 r hr).1).1).trans (r3 r hr).1,(r3 r hr).2⟩⟩;have⟨k1,k2⟩:=lay (w.alloc (.deferred (Gp []))) w.heap.size Ls az1
  refine⟨(w.alloc (.deferred (Gp []))).heap.size,[{target:=.collected w.heap.size,args:=#[]}],_,?_,k1,k2,bN,?_,by simp⟩
  .simp [Instr.enterLoop,newObj,Sem.run]
  .have hold:∀(b:Nat) (x:yan),(w.alloc (.deferred (Gp []))).heap[b]? =Gp x->((w.alloc (.deferred (Gp []))).alloc (.loop {state:=.ready,pending:=Gq,fn:=fn,tmps:=a.tmps,params:=ps,assign:=assign,body:=body,defers:=w.heap.size})).heap[b]? =Gp x:=fun b x hb=>
    (alloc_old (xC.1 hb).1).trans hb
   refine⟨w.heap.size::rs,by rw[r1];rfl,?_,?_⟩
   .grind
   .intro r hr;rcases xy.1 hr with rfl | hr
    .exact ⟨hold _ _ (heap_alloc_new w _),fun hs=>by have:=hh.slt _ hs;lia,fD⟩
    .exact ⟨hold _ _ ((alloc_old (xC.1 (r3 r hr).1).1).trans (r3 r hr).1),(r3 r hr).2⟩
 | some l0=>
  have⟨r0,mA⟩:=cT l0 rfl;have⟨k1,k2⟩:=lay w r0.defers Calm.refl cm;refine⟨w.heap.size,[],_,?_,k1,k2,bN,?_,yp _⟩
  .simp [Instr.enterLoop,JO mA,newObj,Sem.run]
  .exact Cu hh k2 cm
def ax7(hO:iR O)(hC:pG O self){h:Nat}{f:xA}{ps:Array Tmp}{assign body:vz}{as_ b':VC}(YZ:Dy O.P (O.hint h) as_ assign)(Y0:Dy O.P (O.hint h) b' body)(ju:Bw (O.hint h).n ps.toList=ydb){s:St}{ex:Ex}{s':St}(hv:bE O.prog O.aJ self (.rf (aK (O.hint h) f) ps.toList as_ b') s=Gp (ex,s')):C3 O h (.rangeFunc f ps assign body) s ex s':=by
 intro ro lo m S w a cT ht hh hb hn bh fD cm;simp only[bE] at hv
 split at hv
 case h_2=>cases hv
 rename_i n first cap hx
 split at hv
 case h_1=>cases hv
 rename_i hL
 cases he:iQ O.prog O.aJ self ((s.ct,.lp s.tm ps.toList as_ b' 0 .none)::s.hp) (s.ct+1) n (first++(.fn (.y s.ct) [] []::cap)) with
 | none=>simp[he] at hv
 | some q=>
  have⟨v,aX,qv⟩:=q;simp only[he] at hv
  split at hv
  case h_2=>cases hv
  rename_i nd rY MU Lp st pe Is
  cases aR:yq st 1 with
  | true=>rw[aR] at hv;cases hv
  | false=>
   rw[aR] at hv;simp only[yP] at hv;refine wpIn_rangeFunc (fun fn _=>?_);have⟨l,mark,w1,e1,e2,e3,e4,e5,e6⟩:=apu (ro:=ro) fn ps assign body hh ht cT YZ Y0 hn ju fD cm;have rf:=bY (hO.hint h) ht f;rw[hx] at rf;simp only[af] at rf;have⟨fi,ca,hf,r2,r3⟩:=rf;have hle:=jX e4 (p:=⟨l,0,0,0⟩);have Hv:gm S w w1:=fun b hb=>e3.still b hb
   have eN:aA O.ae (fJ m s.ct ⟨l,0,0,0⟩) S w1 (first++(.fn (.y s.ct) [] []::cap)) (fi++#[Value.func (.yield l) #[] #[]]++ca).toList:=by
    have:=mH (iN hle (fun _ h=>h) Hv _ _ r2) (mH (a:=[.fn (.y s.ct) [] []]) (x:=[Value.func (.yield l) #[] #[]]) (by
     simp only[aA]
     exact⟨_,[],rfl,by simp only[af];exact⟨_,dL,rfl⟩,rfl⟩) (iN hle (fun _ h=>h) Hv _ _ r3))
    grind
   have Wf:=hC.heap _ _ _ _ _ _ _ he _ S w1 _ e2 eN;have hP:∃F,O.prog n=Gp F:=by
    unfold iQ at he;rw[hL] at he
    cases hq:O.prog n with
    | none=>simp[hq] at he
    | some F=>exact⟨F,rfl⟩
   have⟨F,hF⟩:=hP;have⟨fn',q1,q2,q3⟩:=hO.prog n F hF;have⟨cb,q4,_⟩:=Tv q2;have fK:(callFunc (O.ae n) (fi++#[Value.func (.yield l) #[] #[]]++ca)).run O.P w1=.ok (.enter (O.ae n) (fi++#[Value.func (.yield l) #[] #[]]++ca)) w1:=GH q1 (by rw[q4];rfl) q3
   refine⟨l,mark,w1,{target:=.fn (.func (O.ae n)) ca,args:=fi++#[Value.func (.yield l) #[] #[]]},w1,O.ae n,fi++#[Value.func (.yield l) #[] #[]]++ca,w1,e1,?_,fun _ _=>trivial,?_,fun hd=>by simp[WF,Fence.wide] at hd,?_⟩
   .show Sem.run O.P (Deferred.ofValue (a.eval f) _) w1=_
    rw[hf];simp[Deferred.ofValue,Act.eval]
   .simp only [invoke];exact fK
   .rcases Wf with ⟨_,Wf⟩ | ⟨u,w',h1,_⟩
    case inr=>rw[fK] at h1;cases h1
    have aul:CallsIn (WF ro) 0 O.P (O.ae n) (fi++#[Value.func (.yield l) #[] #[]]++ca) w1 (Bh O (fJ m s.ct ⟨l,0,0,0⟩) S w1 ((s.ct,.lp s.tm ps.toList as_ b' 0 .none)::s.hp) (s.ct+1) v aX qv):=Wf;refine CallsIn.mono aul ?_;rintro e w3 ⟨u,m',S',rfl,k1,k2,k3,k4⟩;have ig:m' s.ct=Gp ⟨l,0,0,0⟩:=k4.old s.ct _ (yai _) dL;have⟨r,Na,d1,d2,d3,d4,d5,d6,_⟩:=Kn k1 Is ig;have r9:(r.state==LoopState.busy)=ydc:=by
     rw[d3];rcases st with _ | _ | st
     .rfl
     .simp_all
     .have:st=0:=by lia
      subst this;rfl
    have ia:=Gu w3 l (.loop {r with state:=.exhausted});have hdl:=acM k1 s.ct;have qu:¬eB m' (cE aX s.ct) l:=aay k1 Is ig
    have z1:aT O m' S' {w3 with heap:=w3.heap.setIfInBounds l (.loop {r with state:=.exhausted})} (VE.cE aX s.ct) qv:=aa7 hdl ia d2 qu (by have:=hh.gI;lia)
    have z2:b8 m' S' w3 aX m' S' {w3 with heap:=w3.heap.setIfInBounds l (.loop {r with state:=.exhausted})} (VE.cE aX s.ct) s.base:=by
     refine⟨rfl,rfl,rfl,by rw[ia.size];exact yp _,fun b _ hb=>ia.other b (fun e=>hb (e▸KB Is ig)),fun _ h=>h,fun b hb=>ia.other b (fun e=>d2 (e▸hb)),fun b hb=>.inl hb,fun b hb=>.inl (ad3 hb),fun _ _ _ h=>h,fun b x hb=>?_⟩
     grind
    have W9:b8 m S w s.hp m' S' {w3 with heap:=w3.heap.setIfInBounds l (.loop {r with state:=.exhausted})} (VE.cE aX s.ct) s.base:=
     ((e3.Aq hb).trans (k4.Aq (by lia))).trans z2
    have QJ:(Instr.endLoop l).run O.P w3=.ok (Bq pe) {w3 with heap:=w3.heap.setIfInBounds l (.loop {r with state:=.exhausted})}:=by
     simp only[Instr.endLoop,Sem.run_bind,JO d1,Result.andThen_ok,r9,yD,xz,Sem.run_pure,Od (P:=O.P) d1 (fun _ _ _=>by simp),d5]
    have aht:Marks lo S' {w3 with heap:=w3.heap.setIfInBounds l (.loop {r with state:=.exhausted})} (mark++a.defers):=Cu k1 z2 (Cu e2 k4 e5)
    have zy:bX O m' S' {w3 with heap:=w3.heap.setIfInBounds l (.loop {r with state:=.exhausted})} s.tm a.tmps:=by
     refine Cs (fun id p hp=>?_) W9.sub (fun b hb=>W9.still b hb) ht;have h1:=hh.lt id p hp;exact k4.old id p (by lia) (hle id p hp)
    have post:∀Y1,s'={s with hp:=VE.cE aX s.ct,ct:=qv}->ex=Y1->fa O m S w s ex s' a.tmps.size lo (za Y1) {a with defers:=mark++a.defers} {w3 with heap:=w3.heap.setIfInBounds l (.loop {r with state:=.exhausted})}:=by
     rintro Y1 rfl rfl;exact⟨rfl,m',S',zy,z1,rfl,by show s.base<=qv;lia,W9,rfl,aht⟩
    refine⟨_,_,QJ,?_⟩
    cases pe with
    | none=>
     simp only[yc,yo] at hv;exact post .normal hv.2.symm hv.1.symm
    | ret=>
     simp only[yc,yo] at hv;exact wpIn_ret (post .ret hv.2.symm hv.1.symm)
    | exit id=>
     simp only[yc,yo] at hv;exact wpIn_exit (post (.exit id) hv.2.symm hv.1.symm)
end
end
def Le(f g:cx):Prop:=∀c s r,f c s=Gp r->g c s=Gp r
section
variable {P:aE}{L:Lib}{f g:cx}
def Tj(h:Le f g)(n:Nat)(au:List AV)(r:AV)(hr:bO P L f n au=Gp r):bO P L g n au=Gp r:=by
 unfold bO at hr ⊢
 cases hL:L.pure n with
 | some sp=>simpa only[hL] using hr
 | none=>
  simp only[hL] at hr ⊢
  cases hP:P n with
  | none=>simp[hP] at hr
  | some F=>
   simp only[hP] at hr ⊢
   cases hf:f F.body ⟨fA 0 au,[],0,0⟩ with
   | none=>simp[hf] at hr
   | some q=>rw[h _ _ _ hf];simpa only[hf] using hr
def Tw(h:Le f g)(hp:Hp)(ct:Nat)(n:Nat)(au:List AV)(r:AV×Hp×Nat)(hr:iQ P L f hp ct n au=Gp r):iQ P L g hp ct n au=Gp r:=by
 unfold iQ at hr ⊢
 cases hL:L.heap n with
 | some sp=>simpa only[hL] using hr
 | none=>
  simp only[hL] at hr ⊢
  cases hP:P n with
  | none=>simp[hP] at hr
  | some F=>
   simp only[hP] at hr ⊢
   cases hf:f F.body ⟨fA 0 au,hp,ct,ct⟩ with
   | none=>simp[hf] at hr
   | some q=>rw[h _ _ _ hf];simpa only[hf] using hr
def aaq(h:Le f g)(hp:Hp)(ct:Nat)(l:Nat)(xs:List AV)(r:AV×Hp×Nat)(hr:gF f hp ct l xs=Gp r):gF g hp ct l xs=Gp r:=by
 unfold gF at hr ⊢
 cases hl:ai hp l with
 | none=>simp[hl] at hr
 | some o=>
  simp only[hl] at hr ⊢
  split at hr
  .rename_i tm ps as_ body pe qB
   cases hb:ri tm ps xs with
   | none=>simp[hb] at hr
   | some tm'=>
    simp only[hb] at hr ⊢
    cases h1:f as_ ⟨tm',hp,ct,ct⟩ with
    | none=>simp[h1] at hr
    | some q=>
     rw[h _ _ _ h1];simp only[h1] at hr ⊢
     split at hr
     .rename_i s1 az2
      split at hr
      .rename_i gO qc Dx EW nQ az3
       cases h2:f body ⟨s1.tm,aU s1.hp l (.lp gO qc Dx EW 1 nQ),s1.ct,s1.ct⟩ with
       | none=>simp[h2] at hr
       | some q2=>rw[h _ _ _ h2];simpa only[h2] using hr
      .simp at hr
     .simp at hr
  .simp at hr
def aaG(h:Le f g)(hp:Hp)(ct:Nat)(m:Md)(fv:AV)(xs:List AV)(r:AV×Hp×Nat)(hr:eL P L f hp ct m fv xs=Gp r):eL P L g hp ct m fv xs=Gp r:=by
 unfold eL at hr ⊢
 split at hr
 .rename_i n first cap
  cases m with
  | pure=>
   cases hz:cB deep hp (first++(xs++cap)) with
   | none=>simp[hz] at hr
   | some q=>
    simp only[hz] at hr ⊢
    cases hc:bO P L f n q.1 with
    | none=>simp[hc] at hr
    | some u=>rw[Tj h n q.1 u hc];simpa only[hc] using hr
  | own=>
   cases hz:cB deep hp (first++(xs++cap)) with
   | none=>simp[hz] at hr
   | some q=>
    simp only[hz] at hr ⊢
    cases hc:bO P L f n q.1 with
    | none=>simp[hc] at hr
    | some u=>rw[Tj h n q.1 u hc];simpa only[hc] using hr
  | heap=>exact Tw h _ _ _ _ _ hr
  | dyn=>
   cases hz:aF (first++(xs++cap)) with
   | true=>
    simp only[hz,yu] at hr ⊢
    cases hc:bO P L f n (first++(xs++cap)) with
    | none=>simp[hc] at hr
    | some u=>rw[Tj h n _ u hc];simpa only[hc] using hr
   | false=>
    simp only[hz,yP] at hr ⊢;exact Tw h _ _ _ _ _ hr
 .split at hr
  .exact aaq h _ _ _ _ _ hr
  .exact aaq h _ _ _ _ _ hr
  .simp at hr
 .simp at hr
def ab0(h:Le f g)(tm:Env)(hp:Hp)(ct:Nat)(o:Op)(r:AV×Hp×Nat)(hr:aZ P L f tm hp ct o=Gp r):aZ P L g tm hp ct o=Gp r:=by
 unfold aZ at hr ⊢
 split at hr
 .exact aaG h _ _ _ _ _ _ hr
 .rename_i rs fv xs
  cases hc:eL P L f hp ct .dyn (ay tm fv) (dN tm xs) with
  | none=>simp[hc] at hr
  | some q=>rw[aaG h _ _ _ _ _ _ hc];simpa only[hc] using hr
 all_goals simpa only using hr
def Oe(h:Le f g):∀(ops:List aS) (s s':St),de P L f ops s=Gp s'->de P L g ops s=Gp s'
 | [],s,s',hr=>by simpa only[de] using hr
 | ⟨d,gd,o⟩::r,s,s',hr=>by
  simp only[de] at hr ⊢
  split at hr
  .rename_i hw
   cases ho:aZ P L f s.tm s.hp s.ct o with
   | none=>simp[ho] at hr
   | some q=>rw[ab0 h _ _ _ _ _ ho];simp only[ho] at hr ⊢;exact Oe h r _ _ hr
  .rename_i hw
   (try simp only[hw]);exact Oe h r _ _ hr
  .simp at hr
def sG(h:Le f g):∀(c:VC) (s:St) (r:Ex×St),bE P L f c s=Gp r->bE P L g c s=Gp r
 | .skip,s,r,hr=>by simpa only[bE] using hr
 | .oO ops,s,r,hr=>by
  simp only[bE] at hr ⊢
  cases ho:de P L f ops s with
  | none=>simp[ho] at hr
  | some s'=>rw[Oe h _ _ _ ho];simpa only[ho] using hr
 | .seq a b,s,r,hr=>by
  simp only[bE] at hr ⊢
  cases ha:bE P L f a s with
  | none=>simp[ha] at hr
  | some q=>
   rw[sG h a s q ha];obtain⟨ex,s1⟩:=q
   cases ex with
   | normal=>simp only[ha] at hr ⊢;exact sG h b s1 r hr
   | ret=>simpa only[ha] using hr
   | exit id=>simpa only[ha] using hr
 | .cond x a b,s,r,hr=>by
  simp only[bE] at hr ⊢
  split at hr
  .rename_i t ht
   cases t with
   | true=>simp only[yu] at hr ⊢;exact sG h a s r hr
   | false=>simp only[yP] at hr ⊢;exact sG h b s r hr
  .simp at hr
 | .eb id a,s,r,hr=>by
  simp only[bE] at hr ⊢
  cases ha:bE P L f a s with
  | none=>simp[ha] at hr
  | some q=>rw[sG h a s q ha];simpa only[ha] using hr
 | .kp live,s,r,hr=>by simpa only[bE] using hr
 | .fz ts,s,r,hr=>by simpa only[bE] using hr
 | .loop live a,s,r,hr=>by
  simp only[bE] at hr ⊢
  cases ha:bE P L f a (bn live s) with
  | none=>simp[ha] at hr
  | some q=>
   rw[sG h a _ q ha];obtain⟨ex,s1⟩:=q
   cases ex with
   | normal=>simp only[ha] at hr ⊢;exact h _ _ _ hr
   | ret=>simpa only[ha] using hr
   | exit id=>simpa only[ha] using hr
 | .rf fv ps as_ body,s,r,hr=>by
  simp only[bE] at hr ⊢
  split at hr
  .rename_i n first cap hx
   split at hr
   .grind
   .rename_i hL
    cases hc:iQ P L f ((s.ct,.lp s.tm ps as_ body 0 .none)::s.hp) (s.ct+1) n (first++(.fn (.y s.ct) [] []::cap)) with
    | none=>simp[hc] at hr
    | some q=>rw[Tw h _ _ _ _ _ hc];simpa only[hc] using hr
  .simp at hr
 | .exit id,s,r,hr=>by simpa only[bE] using hr
 | .ret,s,r,hr=>by simpa only[bE] using hr
end
def Ko(P:aE)(L:Lib)(c:VC)(s:St):ev P L 0 c s=Gq:=rfl
def Pf(P:aE)(L:Lib)(n:Nat):ev P L (n+1)=bE P L (ev P L n):=rfl
def afK(P:aE)(L:Lib):∀n,Le (ev P L n) (ev P L (n+1))
 | 0=>fun c s r h=>by rw[Ko] at h;cases h
 | n+1=>fun c s r h=>by
  exact sG (afK P L n) c s r h
def Vf(P:aE)(L:Lib){n m:Nat}(h:n<=m):Le (ev P L n) (ev P L m):=by
 induction h with
 | refl=>exact fun _ _ _ h=>h
 | step _ ih=>exact fun c s r hr=>afK P L _ c s r (ih c s r hr)
section
open Go
section
variable {ex:Ex}{lo n:Nat}{s:St}{w w':yk}
section
variable {O:bz}{self:cx}
def fa.none{m:Mp}{S:Nat->Prop}{s':St}{a:Act}(l:Nat):¬fa O m S w s ex s' n lo (.goto l) a w':=by
 rintro⟨h,_⟩;cases ex<;>cases h
def fa.then{m m1:Mp}{S S1:Nat->Prop}{w1:yk}{s1 s2:St}{a':Act}{e:uC}{ex1:Ex}(h1:s1.base=s.base)(hf:b8 m S w s.hp m1 S1 w1 s1.hp s.base)(h:fa O m1 S1 w1 s1 ex s2 n lo e a' w'):fa O m S w s ex s2 n lo e a' w':=by
 have⟨h2,m',S',k1,k2,k3,k4,k5,k6,k7⟩:=h;rw[h1] at k3 k4 k5;exact⟨h2,m',S',k1,k2,k3,k4,hf.trans k5,k6,k7⟩
def fa.bc{m:Mp}{S:Nat->Prop}{s1:St}{a':Act}{e:uC}(live:List Nat)(h:fa O m S w s ex s1 n lo e a' w'):fa O m S w s ex (bn live s1) n lo e a' w':=by
 have⟨h2,m',S',k1,k2,k3,k4,k5,k6,k7⟩:=h;have⟨m2,g1,g2,g3,g4,g5⟩:=TG (live:=live) k1 k2 (by rw[k3];exact k4)
 rw[k3] at g3 g4 g5;exact⟨h2,m2,S',g1,g2,g3,g4,k5.trans g5,k6,Cu k2 g5 k7⟩
def afL{m:Mp}{w:yk}{tmps:Array yh}:∀{ts:List Nat} {s s1:St} {S:Nat->Prop},bX O m S w s.tm tmps->aT O m S w s.hp s.ct->rq ts s=Gp s1->
  ∃S1,bX O m S1 w s1.tm tmps/\aT O m S1 w s1.hp s1.ct/\s1.base=s.base/\s1.ct=s.ct/\∀base,b8 m S w s.hp m S1 w s1.hp base
 | [],s,s1,S,ht,hh,h=>by
  simp only[rq,yc] at h;subst h;exact⟨S,ht,hh,rfl,rfl,fun _=>b8.refl⟩
 | t::r,s,s1,S,ht,hh,h=>by
  simp only[rq] at h
  cases hz:freeze deep s.hp (ak s.tm t) with
  | none=>simp[hz] at h
  | some q=>
   have⟨v,hp⟩:=q;simp only[hz] at h;have⟨h1,h2,h3⟩:=Ot (O:=O) hz;have hg:jE s.hp s.ct hp s.ct:=⟨h1,yp _,fun id o ho=>(by
     have:=h2 id
     rw[ho] at this
     cases hq:ai s.hp id with
     | none=>rw[hq] at this;simp at this
     | some o'=>exact hh.aH id o' hq),fun id o ho _=>(by
     have:=h2 id
     rw[ho] at this
     cases hq:ai s.hp id with
     | none=>rw[hq] at this;simp at this
     | some o'=>exact⟨o',rfl⟩)⟩
   have⟨S',k1,k2,k3,k4⟩:=OO hh hg;have zy:bX O m S' w ((t,v)::s.tm) tmps:=by
    intro i;simp only[ak]
    cases hb:yq t i with
    | true=>
     have:=yg hb
     subst this;exact (h3 hp m S' w s.ct cN.refl k1).1 _ (mJ (fun _ _ h=>h) k2 (fun _ _=>rfl) _ _ (ht t))
    | false=>
     exact mJ (fun _ _ h=>h) k2 (fun _ _=>rfl) _ _ (ht i)
   have⟨S1,g1,g2,g3,g4,g5⟩:=afL (s:={s with tm:=(t,v)::s.tm,hp:=hp}) zy k1 h;exact⟨S1,g1,g2,g3,g4,fun base=>(k4 base).trans (g5 base)⟩
def ad9(hO:iR O)(n:Nat)(hC:∀k,k<=n->pG O (ev O.prog O.aJ k))(h:Nat):∀(c:vz) (l k:Nat) (j:Nat),j<=n->∀(s:St) (ex:Ex) (s':St),
  bE O.prog O.aJ (ev O.prog O.aJ j) (comp O.P (O.hint h) c l k).1 s=Gp (ex,s')->C3 O h c s ex s':=by
 have refl:∀{s:St} {ex:Ex} {m:Mp} {S:Nat->Prop} {w:yk} {a:Act} {lo:Nat},bX O m S w s.tm a.tmps->aT O m S w s.hp s.ct->s.base<=s.ct->Marks lo S w a.defers->fa O m S w s ex s a.tmps.size lo (za ex) a w:=
  fun h1 h2 h3 h4=>⟨rfl,_,_,h1,h2,rfl,h3,b8.refl,rfl,h4⟩
 have Xa:∀{self:cx} {s:St} {r:Ex×St},bE O.prog O.aJ self (.oO [⟨Gq,Gq,bad⟩]) s=Gp r->False:=by
  intro self s r hv;simp[bE,de,bad,aZ,eL,ay] at hv
 intro c
 induction c with
 | skip=>
  intro l k j hj s ex s' hv ro lo m S w a cT ht hh hb hn bh fD cm;simp only[comp,bE,yc,yo] at hv;obtain⟨rfl,rfl⟩:=hv;exact wpIn_skip (refl ht hh hb cm)
 | label x=>
  intro l k j hj s ex s' hv ro lo m S w a cT ht hh hb hn bh fD cm;simp only[comp,bE,yc,yo] at hv;obtain⟨rfl,rfl⟩:=hv;exact wpIn_label (refl ht hh hb cm)
 | exit id=>
  intro l k j hj s ex s' hv ro lo m S w a cT ht hh hb hn bh fD cm;simp only[comp,bE,yc,yo] at hv;obtain⟨rfl,rfl⟩:=hv
  exact wpIn_exit (refl (ex:=.exit id) ht hh hb cm)
 | ret=>
  intro l k j hj s ex s' hv ro lo m S w a cT ht hh hb hn bh fD cm;simp only[comp,bE,yc,yo] at hv;obtain⟨rfl,rfl⟩:=hv
  exact wpIn_ret (refl (ex:=.ret) ht hh hb cm)
 | goto x=>intro l k j hj s ex s' hv;exact (Xa (by simpa only[comp] using hv)).elim
 | refuse x=>intro l k j hj s ex s' hv;exact (Xa (by simpa only[comp] using hv)).elim
 | region id ops d=>
  intro l k j hj s ex s' hv;simp only[comp] at hv;generalize hq:O7 O.P (O.hint h) ops d k=q at hv;have⟨r,k'⟩:=q;have main:∀{s s':St} {ex:Ex},bE O.prog O.aJ (ev O.prog O.aJ j) (.oO r) s=Gp (ex,s')->C3 O h (.region id ops d) s ex s':=by
   intro s s' ex hv;simp only[bE] at hv
   cases ho:de O.prog O.aJ (ev O.prog O.aJ j) r s with
   | none=>simp[ho] at hv
   | some s1=>
    simp only[ho,yc,yo] at hv;obtain⟨rfl,rfl⟩:=hv;exact auk hO (hC j hj) h id ops d k (by rw[hq];exact ho)
  simp only at hv
  split at hv
  .exact main hv
  .rename_i t ts _;simp only[bE] at hv
   cases hf:rq (t::ts) s with
   | none=>simp[hf] at hv
   | some s1=>
    simp only[hf] at hv;intro ro lo m S w a cT ht hh hb hn bh fD cm;have⟨S1,g1,g2,g3,g4,g5⟩:=afL ht hh hf;have h1:=main (s:=s1) (by simpa only[bE] using hv) ro lo m S1 w a cT g1 g2 (by rw[g3,g4];exact hb) hn bh fD (Cu hh (g5 s.base) cm)
    refine wpIn_mono h1 (fun e a' w' hp=>?_)
    exact fa.then (ex1:=.normal) g3 (g5 s.base) hp
 | seq x y ihx ihy=>
  intro l k j hj s ex s' hv ro lo m S w a cT ht hh hb hn bh fD cm;simp only[comp] at hv;generalize AU:comp O.P (O.hint h) x l k=qx at hv;have⟨x',l1,k1⟩:=qx;simp only at hv;generalize Nb:comp O.P (O.hint h) y l1 k1=qy at hv;have⟨y',l2,k2⟩:=qy;simp only[bE] at hv
  cases hx:bE O.prog O.aJ (ev O.prog O.aJ j) x' s with
  | none=>simp[hx] at hv
  | some r=>
   have⟨ex1,s1⟩:=r;have h1:=ihx l k j hj s ex1 s1 (by rw[AU];exact hx) ro lo m S w a cT ht hh hb hn bh fD cm
   refine wpIn_seq (wpIn_mono h1 ?_);rintro e a1 w1 ⟨rfl,m1,S1,g1,g2,g3,g4,g5,g6,g7⟩;have stop:ex1≠.normal->ex=ex1/\s'=s1:=by
    intro eI;rw[hx] at hv
    cases ex1 with
    | normal=>exact absurd rfl eI
    | ret=>simp only[yc,yo] at hv;exact⟨hv.1.symm,hv.2.symm⟩
    | exit id=>simp only[yc,yo] at hv;exact⟨hv.1.symm,hv.2.symm⟩
   cases ex1 with
   | normal=>
    simp only[hx] at hv;simp only[za,Exit.then];have h2:=ihy l1 k1 j hj s1 ex s' (by rw[Nb];exact hv) ro lo m1 S1 w1 a1 (Oz g5 cT) g1 g2 (by rw[g3];exact g4) (by rw[g6];exact hn) bh (xo fD g5.size) g7
    rw[g6] at h2
    exact wpIn_mono h2 (fun e a' w' hp=>fa.then (ex1:=.normal) g3 g5 hp)
   | ret=>
    obtain⟨rfl,rfl⟩:=stop (by simp);exact⟨rfl,m1,S1,g1,g2,g3,g4,g5,g6,g7⟩
   | exit id=>
    obtain⟨rfl,rfl⟩:=stop (by simp);exact⟨rfl,m1,S1,g1,g2,g3,g4,g5,g6,g7⟩
 | cond x p q ihp ihq=>
  intro l k j hj s ex s' hv ro lo m S w a cT ht hh hb hn bh fD cm;simp only[comp] at hv;generalize AU:comp O.P (O.hint h) p (l+1) k=qx at hv;have⟨p',l1,k1⟩:=qx;simp only at hv;generalize Nb:comp O.P (O.hint h) q l1 k1=qy at hv;have⟨q',l2,k2⟩:=qy;simp only at hv;have main:∀(ex:Ex) (s':St),bE O.prog O.aJ (ev O.prog O.aJ j) (.cond (aK (O.hint h) x) p' q') s=Gp (ex,s')->(Code.cond x p q).wpIn (WF ro) 0 O.P (fa O m S w s ex s' a.tmps.size lo) a w:=by
   intro ex s' hv;simp only[bE] at hv;have rx:=bY (hO.hint h) ht x
   split at hv
   .rename_i t hx;rw[hx] at rx;simp only[af] at rx
    cases t with
    | true=>
     simp only[yu] at hv;exact wpIn_cond_true rx (ihp (l+1) k j hj s ex s' (by rw[AU];exact hv) ro lo m S w a cT ht hh hb hn bh fD cm)
    | false=>
     simp only[yP] at hv;exact wpIn_cond_false rx (ihq l1 k1 j hj s ex s' (by rw[Nb];exact hv) ro lo m S w a cT ht hh hb hn bh fD cm)
   .cases hv
  cases Db:(O.hint h).out l with
  | none=>rw[Db] at hv;exact main ex s' hv
  | some live=>
   rw[Db] at hv;simp only at hv;rw[show bE O.prog O.aJ (ev O.prog O.aJ j) (.seq (.cond (aK (O.hint h) x) p' q') (.kp live)) s=match bE O.prog O.aJ (ev O.prog O.aJ j) (.cond (aK (O.hint h) x) p' q') s with | some (.normal,s1)=>Gp (.normal,bn live s1) | r=>r from rfl] at hv
   cases hx:bE O.prog O.aJ (ev O.prog O.aJ j) (.cond (aK (O.hint h) x) p' q') s with
   | none=>simp[hx] at hv
   | some r=>
    have⟨ex1,s1⟩:=r;have h1:=main ex1 s1 hx;rw[hx] at hv
    cases ex1 with
    | normal=>
     simp only[yc,yo] at hv;obtain⟨rfl,rfl⟩:=hv;exact wpIn_mono h1 (fun e a' w' hp=>fa.bc live hp)
    | ret=>simp only[yc,yo] at hv;obtain⟨rfl,rfl⟩:=hv;exact h1
    | exit id=>simp only[yc,yo] at hv;obtain⟨rfl,rfl⟩:=hv;exact h1
 | block id x ih=>
  intro l k j hj s ex s' hv ro lo m S w a cT ht hh hb hn bh fD cm;simp only[comp] at hv;generalize AU:comp O.P (O.hint h) x l k=qx at hv;have⟨x',r⟩:=qx;simp only at hv;have main:∀(ex:Ex) (s':St),bE O.prog O.aJ (ev O.prog O.aJ j) (.eb id x') s=Gp (ex,s')->(Code.block id x).wpIn (WF ro) 0 O.P (fa O m S w s ex s' a.tmps.size lo) a w:=by
   intro ex s' hv;simp only[bE] at hv
   cases hx:bE O.prog O.aJ (ev O.prog O.aJ j) x' s with
   | none=>simp[hx] at hv
   | some q=>
    have⟨ex1,s1⟩:=q;have h1:=ih l k j hj s ex1 s1 (by rw[AU];exact hx) ro lo m S w a cT ht hh hb hn bh fD cm
    refine wpIn_block (wpIn_mono h1 ?_);rintro e a1 w1 ⟨rfl,g⟩
    cases ex1 with
    | normal=>
     simp only[hx,yc,yo] at hv;obtain⟨rfl,rfl⟩:=hv;exact⟨rfl,g⟩
    | ret=>
     simp only[hx,yc,yo] at hv;obtain⟨rfl,rfl⟩:=hv;exact⟨rfl,g⟩
    | exit i=>
     simp only[hx] at hv
     cases Sw:yq i id with
     | true=>
      rw[Sw] at hv;simp only[yu,yc,yo] at hv;obtain⟨rfl,rfl⟩:=hv
      have:=yg Sw
      subst this;simp only[za,Exit.inBlock,xP];exact⟨rfl,g⟩
     | false=>
      rw[Sw] at hv;simp only[yP,yc,yo] at hv;obtain⟨rfl,rfl⟩:=hv;have eI:i≠id:=fun e=>by subst e;simp at Sw
      simp only[za,Exit.inBlock,eI,xz];exact⟨rfl,g⟩
  have ax8:∀live:List Nat,bE O.prog O.aJ (ev O.prog O.aJ j) (.seq (.eb id x') (.kp live)) s=Gp (ex,s')->(Code.block id x).wpIn (WF ro) 0 O.P (fa O m S w s ex s' a.tmps.size lo) a w:=by
   intro live hv;rw[show bE O.prog O.aJ (ev O.prog O.aJ j) (.seq (.eb id x') (.kp live)) s=match bE O.prog O.aJ (ev O.prog O.aJ j) (.eb id x') s with | some (.normal,s1)=>Gp (.normal,bn live s1) | r=>r from rfl] at hv
   cases hx:bE O.prog O.aJ (ev O.prog O.aJ j) (.eb id x') s with
   | none=>simp[hx] at hv
   | some r=>
    have⟨ex1,s1⟩:=r;have h1:=main ex1 s1 hx;rw[hx] at hv
    cases ex1 with
    | normal=>
     simp only[yc,yo] at hv;obtain⟨rfl,rfl⟩:=hv;exact wpIn_mono h1 (fun e a' w' hp=>fa.bc live hp)
    | ret=>simp only[yc,yo] at hv;obtain⟨rfl,rfl⟩:=hv;exact h1
    | exit id=>simp only[yc,yo] at hv;obtain⟨rfl,rfl⟩:=hv;exact h1
  split at hv
  .exact ax8 _ hv
  .exact main ex s' hv
 | loop x ih=>
  intro l k j hj s ex s' hv;simp only[comp] at hv;generalize AU:comp O.P (O.hint h) x (l+1) k=qx at hv;have⟨x',r⟩:=qx;simp only at hv;have rounds:∀(j:Nat),j<=n->∀(s:St) (ex:Ex) (s':St),bE O.prog O.aJ (ev O.prog O.aJ j) (.loop ((O.hint h).live l) x') s=Gp (ex,s')->∃K,∀(ro:Option Nat) (lo:Nat) (m:Mp) (S:Nat->Prop) (w:yk) (a:Act),Br ro w->bX O m S w s.tm a.tmps->aT O m S w s.hp s.ct->s.base<=s.ct->(O.hint h).n<=a.tmps.size->O.w0.heap.size<=lo->lo<=w.heap.size->Marks lo S w a.defers->
    Code.roundsIn (WF ro) 0 O.P x (fa O m S w s ex s' a.tmps.size lo) K a w:=by
   intro j
   induction j with
   | zero=>
    intro hj s ex s' hv;simp only[bE] at hv
    cases hx:bE O.prog O.aJ (ev O.prog O.aJ 0) x' (bn ((O.hint h).live l) s) with
    | none=>simp[hx] at hv
    | some q=>
     have⟨ex1,s1⟩:=q;have stop:ex1≠.normal->ex=ex1/\s'=s1:=by
      intro eI;rw[hx] at hv
      cases ex1 with
      | normal=>exact absurd rfl eI
      | ret=>simp only[yc,yo] at hv;exact⟨hv.1.symm,hv.2.symm⟩
      | exit id=>simp only[yc,yo] at hv;exact⟨hv.1.symm,hv.2.symm⟩
     refine⟨1,fun ro lo m S w a cT ht hh hb hn bh fD cm=>?_⟩;rw[roundsIn_succ];have⟨m1,c1,c2,c3,c4,c5⟩:=TG (live:=(O.hint h).live l) ht hh hb;have h1:=ih (l+1) k 0 hj _ ex1 s1 (by rw[AU];exact hx) ro lo m1 S w a cT c1 c2 (by rw[c3];exact c4) hn bh fD cm
     refine wpIn_mono h1 ?_;rintro e a1 w1 hp;have an:=fa.then (O:=O) (m:=m) (S:=S) (w:=w) (s:=s) (ex1:=.normal) c3 c5 hp;obtain⟨rfl,_⟩:=hp
     cases ex1 with
     | normal=>simp only[hx,Ko] at hv;cases hv
     | ret=>obtain⟨rfl,rfl⟩:=stop (by simp);exact an
     | exit id=>obtain⟨rfl,rfl⟩:=stop (by simp);exact an
   | succ j ihj=>
    intro hj s ex s' hv;simp only[bE] at hv
    cases hx:bE O.prog O.aJ (ev O.prog O.aJ (j+1)) x' (bn ((O.hint h).live l) s) with
    | none=>simp[hx] at hv
    | some q=>
     have⟨ex1,s1⟩:=q;have stop:ex1≠.normal->ex=ex1/\s'=s1:=by
      intro eI;rw[hx] at hv
      cases ex1 with
      | normal=>exact absurd rfl eI
      | ret=>simp only[yc,yo] at hv;exact⟨hv.1.symm,hv.2.symm⟩
      | exit id=>simp only[yc,yo] at hv;exact⟨hv.1.symm,hv.2.symm⟩
     have more:∃K,ex1=.normal->∀(ro:Option Nat) (lo:Nat) (m:Mp) (S:Nat->Prop) (w:yk) (a:Act),Br ro w->bX O m S w s1.tm a.tmps->aT O m S w s1.hp s1.ct->s1.base<=s1.ct->(O.hint h).n<=a.tmps.size->O.w0.heap.size<=lo->lo<=w.heap.size->Marks lo S w a.defers->
       Code.roundsIn (WF ro) 0 O.P x (fa O m S w s1 ex s' a.tmps.size lo) K a w:=by
      cases ex1 with
      | normal=>
       rw[hx] at hv;have eK:ev O.prog O.aJ (j+1) (.loop ((O.hint h).live l) x') s1=Gp (ex,s'):=hv;rw[Pf] at eK;have⟨K,hK⟩:=ihj (by lia) s1 ex s' eK;exact⟨K,fun _=>hK⟩
      | ret=>exact⟨0,fun h=>by cases h⟩
      | exit id=>exact⟨0,fun h=>by cases h⟩
     have⟨K,hK⟩:=more;refine⟨K+1,fun ro lo m S w a cT ht hh hb hn bh fD cm=>?_⟩;rw[roundsIn_succ];have⟨m1,c1,c2,c3,c4,c5⟩:=TG (live:=(O.hint h).live l) ht hh hb;have h1:=ih (l+1) k (j+1) hj _ ex1 s1 (by rw[AU];exact hx) ro lo m1 S w a cT c1 c2 (by rw[c3];exact c4) hn bh fD cm
     refine wpIn_mono h1 ?_;rintro e a1 w1 hp;have an:=fa.then (O:=O) (m:=m) (S:=S) (w:=w) (s:=s) (ex1:=.normal) c3 c5 hp;obtain⟨rfl,_⟩:=hp
     cases ex1 with
     | normal=>
      simp only[za,Exit.then];have⟨_,m2,S2,g1,g2,g3,g4,g5,g6,g7⟩:=an;have h2:=hK rfl ro lo m2 S2 w1 a1 (Oz g5 cT) g1 g2 (by rw[g3];exact g4) (by rw[g6];exact hn) bh (xo fD g5.size) g7
      rw[g6] at h2;revert h2;generalize hA:a.tmps.size=sz;intro h2;have step:∀(K:Nat) (a':Act) (w':yk),Code.roundsIn (WF ro) 0 O.P x (fa O m2 S2 w1 s1 ex s' sz lo) K a' w'->Code.roundsIn (WF ro) 0 O.P x (fa O m S w s ex s' sz lo) K a' w':=by
       intro K
       induction K with
       | zero=>intro a' w' DF;exact DF
       | succ K ihK=>
        intro a' w' DF;rw[roundsIn_succ] at DF ⊢;refine wpIn_mono DF (fun e a'' Sn hq=>?_)
        cases e with
        | normal=>exact ihK a'' Sn hq
        | exit id=>exact fa.then (ex1:=.normal) g3 g5 hq
        | goto x=>exact fa.then (ex1:=.normal) g3 g5 hq
        | ret=>exact fa.then (ex1:=.normal) g3 g5 hq
        | panic x=>exact fa.then (ex1:=.normal) g3 g5 hq
        | outgrown=>exact fa.then (ex1:=.normal) g3 g5 hq
      exact step K a1 w1 h2
     | ret=>obtain⟨rfl,rfl⟩:=stop (by simp);exact an
     | exit id=>obtain⟨rfl,rfl⟩:=stop (by simp);exact an
  have⟨K,hK⟩:=rounds j hj s ex s' hv;intro ro lo m S w a cT ht hh hb hn bh fD cm;exact wpIn_loop_rounds K (hK ro lo m S w a cT ht hh hb hn bh fD cm)
 | scope x ih=>
  intro l k j hj s ex s' hv ro lo m S w a cT ht hh hb hn bh fD cm;simp only[comp] at hv;exact amp (ih l k j hj s ex s' hv ro lo m S w a cT ht hh hb hn bh fD cm) (fun l a w=>fa.none l)
 | rangeFunc f ps as_ body iha ihb=>
  intro l k j hj s ex s' hv;simp only[comp] at hv;generalize AU:comp O.P (O.hint h) as_ l k=qx at hv;have⟨x',l1,k1⟩:=qx;simp only at hv;generalize Nb:comp O.P (O.hint h) body l1 k1=qy at hv;have⟨y',l2,k2⟩:=qy;simp only at hv
  cases ha:Bw (O.hint h).n ps.toList with
  | false=>rw[ha] at hv;exact (Xa hv).elim
  | true=>
   rw[ha] at hv;exact ax7 hO (hC j hj) ⟨l,k,by rw[AU]⟩ ⟨l1,k1,by rw[Nb]⟩ ha hv
end
end
end
section
open Go
section
variable {v:AV}{args:Array yh}{au:List AV}{n:Nat}{s:St}
section
variable {O:bz}{m:Mp}{S:Nat->Prop}{w:yk}
def ab1:∀(au:List AV) (j i:Nat),ak (fA j au) (j+i)=au.getD i .undef
 | [],j,i=>by simp[fA,ak]
 | v::r,j,i=>by
  cases i with
  | zero=>simp[fA,ak]
  | succ i=>
   simp only[fA,ak];have hb:yq j (j+(i+1))=ydc:=by
    cases hq:yq j (j+(i+1)) with
    | false=>rfl
    | true=>have:=yg hq;lia
   rw[hb,show j+(i+1)=j+1+i by lia];rw[ab1 r (j+1) i]
   simp
def ab2(n:Nat)(h:aA O.ae m S w au args.toList):bX O m S w (fA 0 au) (args++uD n undef):=by
 intro i
 have:=ab1 au 0 i
 rw[yd] at this;rw[this,xc]
 cases hv:au[i]? with
 | none=>simp only[Option.getD_none,af]
 | some v=>
  have⟨u,h1,h2⟩:=Ux h hv;have hl:i<args.size:=by
   grind
  have:(args++uD n undef).getD i undef=u:=by
   rw[wq,yas hl]
   grind
  grind
def Hw(tmps:Array yh):ycI->Sem yh
 | .tmp t=>pure (tmps.getD t undef)
 | .cell a t=>do loadVar t (<-asAddr (tmps.getD a undef))
def amq(fn:yaH)(tmps:Array yh):results fn tmps=(do let vs <-fn.results.mapM (Hw tmps);pure (if h:vs.size=1 then vs[0] else .tuple vs)):=by
 rfl
def TI{s:St}{ct:Nat}{tmps:Array yh}(hh:aT O m S w s.hp ct)(ht:bX O m S w s.tm tmps):∀{rs:List ycI} {rv:List RV} {vs:List AV},qX O.P rs=Gp rv->mI s rv=Gp vs->
  ∃us,(rs.mapM (Hw tmps)).run O.P w=.ok us w/\aA O.ae m S w vs us
 | [],rv,vs,h1,h2=>by
  simp only[qX,yc] at h1;subst h1;simp only[mI,yc] at h2;subst h2;exact⟨[],by simp,by simp[aA]⟩
 | .tmp t::rs,rv,vs,h1,h2=>by
  simp only[qX] at h1
  cases hc:qX O.P rs with
  | none=>simp[hc] at h1
  | some l=>
   simp only[hc,yc] at h1;subst h1;simp only[mI,results1] at h2
   cases hl:mI s l with
   | none=>simp[hl] at h2
   | some MS=>
    simp only[hl,yc] at h2;subst h2;have⟨us,g1,g2⟩:=TI hh ht hc hl;refine⟨tmps.getD t undef::us,?_,by simp only[aA];exact⟨_,_,rfl,ht t,g2⟩⟩
    rw[uO];simp only[Hw,Sem.run_bind,Sem.run_pure,Result.andThen_ok];rw[g1];rfl
 | .cell a t::rs,rv,vs,h1,h2=>by
  simp only[qX] at h1
  cases hz:cl O.P t with
  | none=>simp[hz] at h1
  | some sz=>
   cases AJ:dA O.P t with
   | none=>simp[hz,AJ] at h1
   | some ag=>
    cases hc:qX O.P rs with
    | none=>simp[hz,AJ,hc] at h1
    | some l=>
     simp only[hz,AJ,hc,yc] at h1;subst h1;simp only[mI] at h2
     cases dV:results1 s (.cell a sz ag) with
     | none=>simp[dV] at h2
     | some v=>
      cases hl:mI s l with
      | none=>simp[dV,hl] at h2
      | some MS=>
       simp only[dV,hl,yc] at h2;subst h2;have⟨us,g1,g2⟩:=TI hh ht hc hl;have ra:=ht a;have key:∃b o u,tmps.getD a undef=.pointer (Gp ⟨b,o,Gq⟩)/\(loadVar t ⟨b,o,Gq⟩).run O.P w=.ok u w/\af O.ae m S w v u:=by
        simp only[results1] at dV;cases Nc:ak s.tm a<;>rw[Nc] at dV ra<;>simp only[reduceCtorEq] at dV
        .rename_i id o;simp only[af] at ra;have⟨p,hm,hp⟩:=ra
         cases hg:ai s.hp id with
         | none=>simp[hg] at dV
         | some ob=>
          cases ob<;>simp only[hg,reduceCtorEq] at dV
          have Y2:=Uw (o:=0) (n:=0) hh hg hm;have⟨u,q1,q2⟩:=O9 hz AJ (sH o _ p.b p.o Y2) dV;exact⟨p.b,p.o+o,u,hp,q1,q2⟩
        .rename_i cs;simp only[af] at ra;have⟨b,o,hp,_,_,Y2⟩:=ra;have⟨u,q1,q2⟩:=O9 hz AJ Y2 dV;exact⟨b,o,u,hp,q1,q2⟩
       have⟨b,o,u,q1,q2,q3⟩:=key;refine⟨u::us,?_,by simp only[aA];exact⟨_,_,rfl,q3,g2⟩⟩
       rw[uO]
       have:(Hw tmps (.cell a t)).run O.P w=.ok u w:=by
        simp only[Hw];rw[q1];simp[asAddr,q2]
       rw[Sem.run_bind,this,Result.andThen_ok,Sem.run_bind,g1];rfl
def alM{ct:Nat}{tmps:Array yh}{fn:yaH}{rv:List RV}(hh:aT O m S w s.hp ct)(ht:bX O m S w s.tm tmps)(h1:qX O.P fn.results.toList=Gp rv)(h2:jA s rv=Gp v):
  ∃u,(results fn tmps).run O.P w=.ok u w/\af O.ae m S w v u:=by
 unfold jA at h2
 cases hl:mI s rv with
 | none=>simp[hl] at h2
 | some vs=>
  have⟨us,g1,g2⟩:=TI hh ht h1 hl;have hlen:=iz _ _ g2;have hm:(fn.results.mapM (Hw tmps)).run O.P w=.ok us.toArray w:=by
   rw[Array.mapM_eq_mapM_toList];simp[g1]
  have dX:(results fn tmps).run O.P w=.ok (if h:us.toArray.size=1 then us.toArray[0] else .tuple us.toArray) w:=by
   rw[amq,Sem.run_bind,hm];rfl
  rw[hl] at h2
  split at h2
  .rename_i v' qB;simp only[yc] at qB h2;subst qB;simp only[aA] at g2
   grind
  .rename_i eH eI qB;simp only[yc] at qB h2;subst qB;subst h2;have h1:¬us.toArray.size=1:=by
    intro h
    have:vs.length=1:=by simp_all
    cases vs with
    | nil=>simp at this
    | cons x t=>
     cases t with
     | nil=>exact eI x rfl
     | cons y t=>simp at this
   simp only[af]
   grind
  .grind
def Uc{s:St}{tmps:Array yh}{fn:yaH}{rv:List RV}{v:AV}{m0:Mp}{S0:Nat->Prop}{w0:yk}{hp0:Hp}{Sx:Nat}(h1:qX O.P fn.results.toList=Gp rv)(h2:jA s rv=Gp v)(ij:Sx<=s.ct):∀(rs:List Nat) (w:yk),
  rs.Nodup->(∀r,r∈rs->w.heap[r]? =Gp (.deferred (Gp []))/\¬S r/\w0.heap.size<=r)->O.w0.heap.size<=w0.heap.size->aT O m S w s.hp s.ct->bX O m S w s.tm tmps->b8 m0 S0 w0 hp0 m S w s.hp Sx->
  ycK Fence.wide 0 O.P fn tmps (Bh O m0 S0 w0 hp0 Sx v s.hp s.ct) (rs.map (fun r=>{target:=.collected r,args:=#[]})) .returning w
 | [],w,_,_,_,hh,ht,hf=>by
  have⟨u,g1,g2⟩:=alM hh ht h1 h2;exact⟨u,g1,u,m,S,rfl,hh,ij,g2,hf⟩
 | r::rs,w,mz,hr,bh,hh,ht,hf=>by
  have⟨lU,dF⟩:=List.nodup_cons.1 mz;have⟨a1,a2,a3⟩:=hr r wA;have ia:=Gu w r (.deferred Gq);have qu:¬eB m s.hp r:=fun ho=>acQ hh ho _ a1
  have DF:=aa7 hh ia a2 qu (xo bh a3)
  have aR:gm S w {w with heap:=w.heap.setIfInBounds r (.deferred Gq)}:=fun b hb=>ia.other b (fun e=>a2 (e▸hb))
  have DB:b8 m0 S0 w0 hp0 m S {w with heap:=w.heap.setIfInBounds r (.deferred Gq)} s.hp Sx:=by
   refine⟨hf.os,hf.tape,hf.output,by rw[ia.size];exact hf.size,fun b hb ho=>(ia.other b (by lia)).trans (hf.same b hb ho),hf.sub,fun b hb=>(ia.other b (fun e=>a2 (e▸hf.sub b hb))).trans (hf.still b hb),hf.new,hf.own,hf.old,fun b x hb=>?_⟩
   have⟨x',hx⟩:=hf.loops b x hb;exact⟨x',(ia.other b (fun e=>by subst e;rw[a1] at hx;cases hx)).trans hx⟩
  refine⟨by simp,.inl ⟨r,_,rfl,?_,Uc h1 h2 ij rs _ dF (fun r' bg=>?_) bh DF (Cs (fun _ _ h=>h) (fun _ h=>h) aR ht) DB⟩⟩
  .simp only [Instr.takeDeferred,Sem.run_bind,aa8 (P:=O.P) a1 (fun _ _ _=>by simp),Result.andThen_ok,Od (P:=O.P) a1 (fun _ _ _=>by simp),Sem.run_pure]
  .have ⟨b1,b2,b3⟩:=hr r' (xM _ bg);exact⟨(ia.other r' (fun e=>lU (e▸bg))).trans b1,b2,b3⟩
end
section
variable {O:bz}{self:cx}
def ax9(hO:iR O)(hS:∀v s ex s',self v s=Gp (ex,s')->∀c h l k,(comp O.P (O.hint h) c l k).1=v->C3 O h c s ex s'){F:az}(hF:O.prog n=Gp F){hp:Hp}{ct:Nat}{ex:Ex}(hv:self F.body ⟨fA 0 au,hp,ct,ct⟩=Gp (ex,s))(hex:ex=.normal\/ex=.ret)(hr:jA s F.dR=Gp v):C2 O n hp ct au v s.hp s.ct:=by
 intro m S w args hh eN;have⟨fn,q1,q2,q3⟩:=hO.prog n F hF;have⟨c,q4,q5,q6,q7⟩:=Tv q2;refine .inl ⟨GH q1 (by rw[q4];rfl) q3,?_⟩
 have hc:=hS _ _ _ _ hv c n 0 0 q5.symm;have hw:=hc Gq w.heap.size m S w {tmps:=args++uD (fn.ntmps-args.size) undef,defers:=[]} (fun l hl=>by cases hl) (ab2 _ eN) hh (yp _) (by simp;lia) hh.gI (yp _) ⟨[],rfl,by simp,by simp⟩
 refine callsIn_of_wp_marks (F:=Fence.wide) q1 q4 trivial (wpIn_mono hw ?_);rintro e a' w' ⟨rfl,m',S',k1,k2,k3,k4,k5,k6,rs,k7,k8,k9⟩;have main:ycK Fence.wide 0 O.P fn a'.tmps (Bh O m S w hp ct v s.hp s.ct) a'.defers .returning w':=by
  rw[k7];exact Uc q6 hr k4 rs w' k8 k9 hh.gI k2 k1 k5
 rcases hex with rfl | rfl
 .exact main
 .exact main
def CF.mono{P:xx}{f:tS}{w:yk}{R R':yaU->yk->Prop}(h:CF P f args w R)(hr:∀e w',R e w'->R' e w'):CF P f args w R':=by
 rcases h with ⟨h1,h2⟩ | ⟨u,w',h1,h2⟩
 .exact .inl ⟨h1,CallsIn.mono h2 hr⟩
 .exact .inr ⟨u,w',h1,hr _ _ h2⟩
def anu{w:yk}{S:Nat->Prop}(hg:C1 O w)(hs:∀b,S b->b<w.heap.size):aT O fh S w [] 0:=
 ⟨(fun id o p h _=>by simp[ai] at h),(fun id p h=>by cases h),(fun i j oi oj pi pj h=>by simp[ai] at h),hs,(fun id p h=>by cases h),(fun id p h=>by cases h),hg.1,hg.2,(fun id o h=>by simp[ai] at h)⟩
def UH{b:Nat}(h:eB fh [] b):False:=by
 have⟨_,_,_,h,_⟩:=h;simp[ai] at h
def Tn{r:AV}(h:C2 O n [] 0 au v s.hp s.ct)(hr:result s.hp v=Gp r):eG O n au r:=by
 intro w S args hg hs eN hp;refine CF.mono (h fh S w args (anu hg hs) eN) ?_;rintro e w' ⟨u,m',S',rfl,k1,k2,k3,k4⟩;have bh:∀b,eB m' s.hp b->w.heap.size<=b:=fun b hb=>(k4.own b hb).elim (fun h=>(UH h).elim) (fun h=>h)
 have⟨S2,g1,g2,g3,g4⟩:=ank (lo:=w.heap.size) k1 hr k3 bh;refine⟨u,S2,rfl,⟨k4.os,k4.tape,k4.output,k4.size,fun b hb=>k4.same b hb UH⟩,fun b hb=>g1 b (k4.sub b hb),fun b hb=>?_,g3,g4⟩;rcases g2 b hb with h | h
 .rcases k4.new b h with h | h | h
  .exact .inl h
  .exact (UH h).elim
  .exact .inr h
 .exact .inr (bh b h)
def amr(hO:iR O)(hS:∀v s ex s',self v s=Gp (ex,s')->∀c h l k,(comp O.P (O.hint h) c l k).1=v->C3 O h c s ex s'):pG O self:=by
 have heap:∀(n:Nat) (F:az),O.prog n=Gp F->∀(hp:Hp) (ct:Nat) (au:List AV) (ex:Ex) (s:St) (v:AV),self F.body ⟨fA 0 au,hp,ct,ct⟩=Gp (ex,s)->(ex=.normal\/ex=.ret)->jA s F.dR=Gp v->C2 O n hp ct au v s.hp s.ct:=
  fun n F hF hp ct au ex s v h1 h2 h3=>ax9 hO hS hF h1 h2 h3
 refine⟨?_,?_,fun hp ct l xs v an aI hv=>apt hS hv⟩
 .intro n au r hv;unfold bO at hv
  cases hL:O.aJ.pure n with
  | some sp=>rw[hL] at hv;exact hO.aJ n sp au r hL hv
  | none=>
   simp only[hL] at hv
   cases hF:O.prog n with
   | none=>simp[hF] at hv
   | some F=>
    simp only[hF] at hv
    split at hv
    .rename_i s hb
     cases hr:jA s F.dR with
     | none=>simp[hr] at hv
     | some v=>simp only[hr] at hv;exact Tn (heap n F hF [] 0 au .normal s v hb (.inl rfl) hr) hv
    .rename_i s hb
     cases hr:jA s F.dR with
     | none=>simp[hr] at hv
     | some v=>simp only[hr] at hv;exact Tn (heap n F hF [] 0 au .ret s v hb (.inr rfl) hr) hv
    .cases hv
 .intro hp ct n au v an aI hv;unfold iQ at hv
  cases hL:O.aJ.heap n with
  | some sp=>rw[hL] at hv;exact hO.Hu n sp hp ct au v an aI hL hv
  | none=>
   simp only[hL] at hv
   cases hF:O.prog n with
   | none=>simp[hF] at hv
   | some F=>
    grind
def aaH(hO:iR O):∀n,pG O (ev O.prog O.aJ n):=by
 intro n
 induction n using vP with
 | _ n ih=>
  refine amr hO (fun v s ex s' hv c h l k hc=>?_)
  cases n with
  | zero=>rw[Ko] at hv;cases hv
  | succ n=>
   rw[Pf,<-hc] at hv;exact ad9 hO n (fun k hk=>ih k (by lia)) h c l k n (yp _) s ex s' hv
def sound(hO:iR O){f:Nat}{r:AV}(h:YF O.prog O.aJ n f au=Gp r):eG O f au r:=(aaH hO n).pure f au r h
end
end
end
def iD:List Nat->List Nat->Bool
 | [],_=>ydb
 | a::x,b::y=>yq a b&&iD x y
 | _::_,[]=>ydc
def nE(sub:List Nat):List Nat->Nat->Option Nat
 | [],k=>bif iD sub [] then Gp k else Gq
 | b::r,k=>bif iD sub (b::r) then Gp k else nE sub r (k+1)
def QK:List AV->Option AV
 | [.str s,.str sep]=>
  bif yL s.length 4294967281 then
   match nE sep s 0 with
   | some i=>Gp (.av [.str (s.take i),.str (s.drop (i+sep.length)),.bool ydb])
   | none=>Gp (.av [.str s,.str [],.bool ydc])
  else Gq
 | _=>Gq
def Of:List AV->Option AV
 | [.str s,.str p]=>Gp (bif iD p s then .av [.str (s.drop p.length),.bool ydb] else .av [.str s,.bool ydc])
 | _=>Gq
def Og:List AV->Option AV
 | [.str s,.str p]=>Gp (.bool (iD p s))
 | _=>Gq
def NY:List AV->Option AV
 | [.str s,.str p]=>Gp (.str (bif iD p s then s.drop p.length else s))
 | _=>Gq
def Hx(i:Nat):List Nat->Bool
 | []=>ydc
 | j::r=>bif yq j i then ydb else Hx i r
def mq(set:List Nat):List Nat->List Nat
 | []=>[]
 | b::r=>bif Hx b set then mq set r else b::r
def GX:List Nat->Bool
 | []=>ydb
 | b::r=>yL b 128&&GX r
def trimS:List AV->Option AV
 | [.str s,.str set]=>bif GX set&&(yL s.length 4294967281&&yL set.length 4294967281) then Gp (.str (mq set (mq set s.reverse).reverse)) else Gq
 | _=>Gq
def ja(s:List Nat):Nat->List Nat
 | 0=>[]
 | n+1=>s++ja s n
def CG:List AV->Option AV
 | [.str s,.int .i64 (.ofNat n)]=>bif yB n 1099511627776&&yB (s.length*n) 1099511627776 then Gp (.str (ja s n)) else Gq
 | _=>Gq
def od:Nat->Nat->List Nat->List Nat
 | 0,_,acc=>acc
 | f+1,n,acc=>bif yL n 10 then (48+n)::acc else od f (n/10) ((48+n%10)::acc)
def aB(n:Nat):List Nat:=od (n+1) n []
def aV:Int->List Nat
 | .ofNat n=>aB n
 | .negSucc n=>45::aB (n+1)
def C5:Int->Bool
 | .ofNat n=>yL n 9223372036854775808
 | .negSucc n=>yL n 9223372036854775808
def Lt:List AV->Option AV
 | [.int .i64 n]=>bif C5 n then Gp (.str (aV n)) else Gq
 | _=>Gq
def Co:List AV->Option AV
 | [.int .u64 (.ofNat n),.int .i64 10]=>bif yL n 18446744073709551616 then Gp (.str (aB n)) else Gq
 | _=>Gq
def cL:List Nat->Nat->Option Nat
 | [],a=>Gp a
 | b::r,a=>bif yB 48 b&&yB b 57 then cL r (10*a+(b-48)) else Gq
def Lu:List AV->Option AV
 | [.str s]=>
  bif yL 0 s.length&&yB s.length 18 then
   match cL s 0 with | some n=>Gp (.av [.int .i64 n,.undef]) | none=>Gq
  else Gq
 | _=>Gq
def pH:List AV->Option AV
 | [.int .u64 (.ofNat x),.int .u64 (.ofNat y),.int .u64 (.ofNat c)]=>
  bif yB c 1&&(yL x 18446744073709551616&&yL y 18446744073709551616) then Gp (.av [.int .u64 ((x+y+c)%18446744073709551616:Nat),.int .u64 ((x+y+c)/18446744073709551616:Nat)]) else Gq
 | _=>Gq
def CO:List AV->Option AV
 | [.int .u64 (.ofNat x),.int .u64 (.ofNat y),.int .u64 (.ofNat c)]=>
  bif yB c 1&&(yL x 18446744073709551616&&yL y 18446744073709551616) then Gp (.av [.int .u64 ((x+18446744073709551616*2-y-c)%18446744073709551616:Nat),.int .u64 (bif yB (y+c) x then 0 else 1)]) else Gq
 | _=>Gq
def z7:List AV->Option AV
 | [.int .u64 (.ofNat x),.int .u64 (.ofNat y)]=>bif yL x 18446744073709551616&&yL y 18446744073709551616 then Gp (.av [.int .u64 (x*y/18446744073709551616:Nat),.int .u64 (x*y%18446744073709551616:Nat)]) else Gq
 | _=>Gq
def eU:Nat->Nat->Nat
 | 0,_=>0
 | f+1,n=>bif yq n 0 then 0 else 1+eU f (n/2)
def KE:List AV->Option AV
 | [.int .u64 (.ofNat x)]=>bif yL x 18446744073709551616 then Gp (.int .i64 (eU 64 x)) else Gq
 | _=>Gq
def Hn:List AV->Option AV
 | [.int .u64 (.ofNat x)]=>bif yL x 18446744073709551616 then Gp (.int .i64 (64-eU 64 x:Nat)) else Gq
 | _=>Gq
def UI:List AV->Option AV
 | [.aw .f64 b]=>Gp (.int .u64 b)
 | _=>Gq
def To:List AV->Option AV
 | [.int .u64 (.ofNat n)]=>Gp (.aw .f64 n)
 | _=>Gq
section
open Go
section
variable {a:AV}{args:Array yh}{au:List AV}{s:List Nat}{w:yk}
section
variable {O:bz}{n:Nat}
def JR{w':yk}(h:RowKit.Below w.heap.size w w'):Calm w w':=⟨h.os,h.tape,h.output,h.size,h.block⟩
def anv(k:Nat):Calm w (w.drewN k):=⟨rfl,rfl,rfl,yp _,fun _ _=>rfl⟩
def anw(h:C1 O w){a:Addr}{v:yh}(hc:O.w0.cell? a=Gp v):w.cell? a=Gp v:=by
 have hb:a.block<O.w0.heap.size:=by
  unfold World.cell? at hc
  cases hq:O.w0.heap[a.block]? with
  | none=>simp[hq] at hc
  | some o=>exact (xC.1 hq).1
 unfold World.cell? at hc ⊢;rw[h.1 _ hb];exact hc
def pn{r:AV}(hr:∀S w' lo u,af O.ae fh S w' r u->pP O.ae S w' lo r u)(fK:∀args w,(callFunc (O.ae n) args).run O.P w=.ok (.enter (O.ae n) args) w)(h:∀w S args,C1 O w->aA O.ae fh S w au args.toList->wB O.P (O.ae n) args w fun e w'=>∃u,e=.returned u/\Calm w w'/\∀S,af O.ae fh S w' r u):eG O n au r:=by
 intro w S args hg hS dU _;refine .inl ⟨fK args w,Go.callsIn_wide.2 ((h w S args hg dU).mono ?_)⟩;rintro e w' ⟨u,rfl,hc,hu⟩;exact⟨u,S,rfl,hc,fun _ h=>h,fun _ h=>.inl h,fun b hb=>yG (hS b hb) hc.size,hr S w' _ u (hu S)⟩
def OA{r:AV}(hr:∀S w' lo u,af O.ae fh S w' r u->pP O.ae S w' lo r u)(h:∀w S args,aA O.ae fh S w au args.toList->∃u,(callFunc (O.ae n) args).run O.P w=.ok (.value u) w/\∀S,af O.ae fh S w r u):eG O n au r:=by
 intro w S args _ hS dU _;have⟨u,h1,h2⟩:=h w S args dU;exact .inr ⟨u,w,h1,u,S,rfl,Calm.refl,fun _ h=>h,fun _ h=>.inl h,hS,hr S w _ u (h2 S)⟩
def Kp:∀S w' lo u,af O.ae fh S w' (.str s) u->pP O.ae S w' lo (.str s) u:=fun S w' lo u h=>⟨[],rfl,h,rfl⟩
def Vg{k:IntKind}{z:Int}:∀S w' lo u,af O.ae fh S w' (.int k z) u->pP O.ae S w' lo (.int k z) u:=fun S w' lo u h=>⟨[],rfl,h,rfl⟩
def ary{k:FloatKind}{z:Nat}:∀S w' lo u,af O.ae fh S w' (.aw k z) u->pP O.ae S w' lo (.aw k z) u:=fun S w' lo u h=>⟨[],rfl,h,rfl⟩
def acT{b:Bool}:∀S w' lo u,af O.ae fh S w' (.bool b) u->pP O.ae S w' lo (.bool b) u:=fun S w' lo u h=>⟨[],rfl,h,rfl⟩
def aa9{S:Nat->Prop}{w':yk}{lo:Nat}:∀{vs:List AV} {us:List yh},(∀v,v∈vs->(∀ex sz k cs,v≠.cF ex sz k cs)/\aW v=ydb)->aA O.ae fh S w' vs us->mv O.ae S w' lo vs us []
 | [],us,_,h=>by simp only[aA] at h;exact⟨h,rfl⟩
 | v::vs,us,hv,h=>by
  simp only[aA] at h;obtain⟨u,t,rfl,h1,h2⟩:=h;have h3:=hv v (by simp);refine⟨u,t,[],[],rfl,rfl,?_,aa9 (fun v hm=>hv v (by simp[hm])) h2⟩;cases v<;>first | exact⟨rfl,h1,h3.2⟩ | exact absurd rfl (h3.1 _ _ _ _)
def GL{vs:List AV}(hv:∀v,v∈vs->(∀ex sz k cs,v≠.cF ex sz k cs)/\aW v=ydb):∀S w' lo u,af O.ae fh S w' (.av vs) u->pP O.ae S w' lo (.av vs) u:=by
 intro S w' lo u h;obtain⟨xs,rfl,h⟩:=h;exact⟨xs,[],rfl,aa9 hv h,by simp⟩
def E3{S:Nat->Prop}(h:aA O.ae fh S w [a] args.toList):∃u,args=#[u]/\af O.ae fh S w a u:=by
 simp only[aA] at h
 grind
def C6{S:Nat->Prop}{b:AV}(h:aA O.ae fh S w [a,b] args.toList):∃u v,args=#[u,v]/\af O.ae fh S w a u/\af O.ae fh S w b v:=by
 simp only[aA] at h
 grind
def afM{S:Nat->Prop}{b c:AV}(h:aA O.ae fh S w [a,b,c] args.toList):∃u v x,args=#[u,v,x]/\af O.ae fh S w a u/\af O.ae fh S w b v/\af O.ae fh S w c x:=by
 simp only[aA] at h
 grind
def JS{S:Nat->Prop}{l:List UInt8}(h:l.map xr=s):af O.ae fh S w (.str s) (.string ⟨l.toArray⟩):=by
 simp only[af];exact⟨_,rfl,h⟩
def toNat_inj{a b:UInt8}:yq a.toNat b.toNat=(a==b):=by
 by_cases h:a=b
 .simp_all
 .have h':a.toNat≠b.toNat:=fun e=>h (UInt8.toNat_inj.1 e)
  have e:(a==b)=ydc:=by simp_all
  rw[e]
  cases hq:yq a.toNat b.toNat with
  | false=>rfl
  | true=>exact absurd (yg hq) h'
def J4:∀(p s:List UInt8),iD (p.map xr) (s.map xr)=p.isPrefixOf s
 | [],s=>by cases s<;>rfl
 | a::p,[]=>rfl
 | a::p,b::s=>by
  simp only[xb,iD,List.isPrefixOf,J4 p s,toNat_inj]
def aba:∀(s sep:List UInt8) (k:Nat),nE (sep.map xr) (s.map xr) k=if 0<=Lib.index s sep then Gp (k+(Lib.index s sep).toNat) else Gq
 | [],sep,k=>by
  simp only[List.map_nil,nE,Lib.index]
  cases sep with
  | nil=>simp[iD]
  | cons a r=>simp[iD]
 | b::s,sep,k=>by
  have ih:=aba s sep (k+1);have hp:=J4 sep (b::s);simp only[xb,nE,hp,Lib.index]
  grind
def acU(b:UInt8):∀cs:List UInt8,Hx b.toNat (cs.map xr)=cs.contains b
 | []=>rfl
 | c::cs=>by
  simp only[xb,Hx,acU b cs,List.contains_cons,toNat_inj]
  grind
def Ud(cs:List UInt8):∀l:List UInt8,mq (cs.map xr) (l.map xr)=(l.dropWhile (cs.contains ·)).map xr
 | []=>rfl
 | b::l=>by
  simp only[xb,mq,acU,List.dropWhile_cons,Ud cs l]
  grind
def acV(l:List UInt8):∀n,ja (l.map xr) n=(Lib.repeatL l n).map xr
 | 0=>rfl
 | n+1=>by simp only[ja,Lib.repeatL,xg,acV l n]
def aaI:∀(f n:Nat) (acc:List Nat),n<f->od f n acc=(Lib.decDigits n).map xr++acc
 | 0,n,acc,h=>by lia
 | f+1,n,acc,h=>by
  rw[od,Lib.decDigits];by_cases hn:n<10
  .rw [show yL n 10=ydb from yv hn,yu,dif_pos hn]
   have:(ycf (48+n)).toNat=48+n:=by
    rw[yaY];lia
   grind
  .have hb:yL n 10=ydc:=by
    cases hq:yL n 10 with
    | false=>rfl
    | true=>exact absurd (yt hq) (by lia)
   rw[hb,yP,dif_neg hn,aaI f (n/10) _ (by lia),xg,List.append_assoc]
   have:(ycf (48+n%10)).toNat=48+n%10:=by
    rw[yaY];lia
   grind
def UJ(n:Nat):aB n=(Lib.decDigits n).map xr:=by
 rw[aB,aaI (n+1) n [] (by lia),List.append_nil]
def apv(n:Int):aV n=(Lib.itoa n).map xr:=by
 cases n with
 | ofNat k=>
  have:¬ybE k<0:=by simp
  simp only[aV,Lib.itoa,this,xz,UJ];rfl
 | negSucc k=>
  have:Int.negSucc k<0:=Int.negSucc_lt_zero k
  simp only[aV,Lib.itoa,this,xP,UJ,xb];rfl
def UK:∀f x:Nat,eU f x=Lib.bitLenAux f x
 | 0,_=>rfl
 | f+1,x=>by
  rw[eU,Lib.bitLenAux];by_cases h:x=0
  .simp_all
  .have hb:yq x 0=ydc:=by
    cases hq:yq x 0 with
    | false=>rfl
    | true=>exact absurd (yg hq) h
   rw[hb,yP,yr h,UK f]
def abb:∀{cs:List UInt8},GX (cs.map xr)=ydb->∀(j:Nat) b,cs[j]? =Gp b->b.toNat<128
 | [],_,j,b,h=>by simp at h
 | c::cs,h,j,b,hb=>by
  simp only[xb,GX,ye] at h
  cases j with
  | zero=>
   simp_all
  | succ j=>exact abb h.2 j b (by simpa using hb)
def acW:∀{l:List UInt8} {a z:Nat},cL (l.map xr) a=Gp z->Lib.decFrom a l=Gp z
 | [],a,z,h=>h
 | b::l,a,z,h=>by
  simp only[xb,cL] at h
  cases hb:(yB 48 b.toNat&&yB b.toNat 57) with
  | false=>rw[hb] at h;cases h
  | true=>
   rw[hb] at h;simp only[ye] at hb;have h1:=yt hb.1;have h2:=yt hb.2
   have:=acW h
   rw[Lib.decFrom,Lib.digitVal,yC ⟨h1,h2⟩]
   grind
def apw{l:List UInt8}{z:Nat}(h:cL (l.map xr) 0=Gp z)(h0:0<l.length):Lib.atoi l=Gp (z:Int):=by
 cases l with
 | nil=>simp at h0
 | cons b r=>
  have hd:=acW h;have hb:48<=b.toNat:=by
   simp only[xb,cL] at h
   cases hb:(yB 48 b.toNat&&yB b.toNat 57) with
   | false=>rw[hb] at h;cases h
   | true=>
    simp_all
  have h1:(b==45)=ydc:=by
   have:b≠45:=fun e=>by subst e;exact absurd hb (by decide)
   grind
  have h2:(b==43)=ydc:=by
   have:b≠43:=fun e=>by subst e;exact absurd hb (by decide)
   grind
  simp only[Lib.atoi,h1,h2,yD,xz,Lib.decNat,List.isEmpty_cons,hd,wO]
section
variable {f:tS}
def alk(hf:O.ae n=f)(fK:∀args w,(callFunc f args).run O.P w=.ok (.enter f args) w)(hc:∀(s p:ByteArray) (w:yk),wB O.P f #[.string s,.string p] w fun e w'=>e=.returned (.tuple #[.string ⟨(Lib.trimPrefix s.data.toList p.data.toList).toArray⟩,.bool (Lib.hasPrefix s.data.toList p.data.toList)])/\w'=w):
  ∀au r,Of au=Gp r->eG O n au r:=by
 intro au r h;unfold Of at h
 split at h
 .rename_i s p;simp only[yc] at h;subst h;refine pn ?_ (by rw[hf];exact fK) ?_
  .cases iD p s<;>exact GL (by simp[aW])
  .intro w S args hg dU;obtain⟨u,v,rfl,h1,h2⟩:=C6 dU;obtain⟨t1,rfl,rfl⟩:=h1;obtain⟨t2,rfl,rfl⟩:=h2;rw[hf];refine (hc t1 t2 w).mono ?_;rintro e w' ⟨rfl,rfl⟩;refine⟨_,rfl,Calm.refl,fun S=>?_⟩;rw[J4,yS];unfold Lib.trimPrefix Lib.hasPrefix
   cases hp:t2.data.toList.isPrefixOf t1.data.toList with
   | true=>
    simp only[yu,xP,af,aA]
    simp_all
   | false=>
    simp only[yP,yD,xz,af,aA]
    grind
 .cases h
def alm(hf:O.ae n=f)(fK:∀args w,(callFunc f args).run O.P w=.ok (.enter f args) w)(hc:∀(s p:ByteArray) (w:yk),wB O.P f #[.string s,.string p] w fun e w'=>e=.returned (.bool (Lib.hasPrefix s.data.toList p.data.toList))/\w'=w):
  ∀au r,Og au=Gp r->eG O n au r:=by
 intro au r h;unfold Og at h
 split at h
 .rename_i s p;simp only[yc] at h;subst h;refine pn acT (by rw[hf];exact fK) ?_
  intro w S args hg dU;obtain⟨u,v,rfl,h1,h2⟩:=C6 dU;obtain⟨t1,rfl,rfl⟩:=h1;obtain⟨t2,rfl,rfl⟩:=h2;rw[hf];refine (hc t1 t2 w).mono ?_;rintro e w' ⟨rfl,rfl⟩;refine⟨_,rfl,Calm.refl,fun S=>?_⟩;rw[J4];simp only[af,Lib.hasPrefix]
 .cases h
def alg(hf:O.ae n=f)(fK:∀args w,(callFunc f args).run O.P w=.ok (.enter f args) w)(hc:∀(s p:ByteArray) (w:yk),wB O.P f #[.string s,.string p] w fun e w'=>e=.returned (.string ⟨(Lib.trimPrefix s.data.toList p.data.toList).toArray⟩)/\w'=w):
  ∀au r,NY au=Gp r->eG O n au r:=by
 intro au r h;unfold NY at h
 split at h
 .rename_i s p;simp only[yc] at h;subst h;refine pn Kp (by rw[hf];exact fK) ?_
  intro w S args hg dU;obtain⟨u,v,rfl,h1,h2⟩:=C6 dU;obtain⟨t1,rfl,rfl⟩:=h1;obtain⟨t2,rfl,rfl⟩:=h2;rw[hf];refine (hc t1 t2 w).mono ?_;rintro e w' ⟨rfl,rfl⟩;refine⟨_,rfl,Calm.refl,fun S=>?_⟩;rw[J4,yS];refine JS ?_;unfold Lib.trimPrefix Lib.hasPrefix
  cases hp:t2.data.toList.isPrefixOf t1.data.toList with
  | true=>simp[List.map_drop]
  | false=>simp
 .cases h
def arz(hf:O.ae n=f)(fK:∀args w,(callFunc f args).run O.P w=.ok (.enter f args) w){a:Addr}{m:Int}(hm:O.w0.cell? a=Gp (.int .i64 m))(hc:∀(s sep:ByteArray) (w:yk),s.size<4294967281->w.cell? a=Gp (.int .i64 m)->wB O.P f #[.string s,.string sep] w fun e w'=>e=.returned (.tuple #[.string ⟨(Lib.cut s.data.toList sep.data.toList).1.toArray⟩,.string ⟨(Lib.cut s.data.toList sep.data.toList).2.1.toArray⟩,.bool (Lib.cut s.data.toList sep.data.toList).2.2])/\∃n,w'=w.drewN n):
  ∀au r,QK au=Gp r->eG O n au r:=by
 intro au r h;unfold QK at h
 split at h
 .rename_i s sep
  cases hb:yL s.length 4294967281 with
  | false=>rw[hb] at h;cases h
  | true=>
   rw[hb] at h;have key:∀(q:List UInt8×List UInt8×Bool),(∀t1 t2:ByteArray,t1.data.toList.map xr=s->t2.data.toList.map xr=sep->r=.av [.str ((Lib.cut t1.data.toList t2.data.toList).1.map xr),.str ((Lib.cut t1.data.toList t2.data.toList).2.1.map xr),.bool (Lib.cut t1.data.toList t2.data.toList).2.2])->
     (∃a b c,r=.av [.str a,.str b,.bool c])->eG O n [.str s,.str sep] r:=by
    intro q hq aum;obtain⟨a',b',c',rfl⟩:=aum;refine pn (GL (by simp[aW])) (by rw[hf];exact fK) ?_
    intro w S args hg dU;obtain⟨u,v,rfl,h1,h2⟩:=C6 dU;obtain⟨t1,rfl,e1⟩:=h1;obtain⟨t2,rfl,e2⟩:=h2;rw[hf];have hl:t1.size<4294967281:=by
     have:=ol hb
     rw[<-e1,yS] at this
     simp_all
    refine (hc t1 t2 w hl (anw hg hm)).mono ?_;rintro e w' ⟨rfl,k,rfl⟩;refine⟨_,rfl,anv k,fun S=>?_⟩;simp only[af,aA]
    grind
   refine key ([],[],ydc) ?_ ?_
   .intro t1 t2 e1 e2;subst e1;subst e2;rw[aba] at h;unfold Lib.cut;by_cases h0:0<=Lib.index t1.data.toList t2.data.toList
    .simp_all
    .grind
   .grind
 .cases h
def apx(hf:O.ae n=f)(fK:∀args w,(callFunc f args).run O.P w=.ok (.enter f args) w)(hc:∀(s cs:ByteArray) (w:yk),s.size<=9223372036854775807->cs.size<4294967281->(∀(j:Nat) b,cs.data.toList[j]? =Gp b->b.toNat<128)->wB O.P f #[.string s,.string cs] w fun e w'=>e=.returned (.string ⟨(Lib.trimS s.data.toList cs.data.toList).toArray⟩)/\RowKit.Below w.heap.size w w'):
  ∀au r,trimS au=Gp r->eG O n au r:=by
 intro au r h;unfold trimS at h
 split at h
 .rename_i s cs
  cases hb:(GX cs&&(yL s.length 4294967281&&yL cs.length 4294967281)) with
  | false=>rw[hb] at h;cases h
  | true=>
   rw[hb] at h;simp only[yu,yc] at h;subst h;simp only[ye] at hb;refine pn Kp (by rw[hf];exact fK) ?_
   intro w S args hg dU;obtain⟨u,v,rfl,h1,h2⟩:=C6 dU;obtain⟨t1,rfl,rfl⟩:=h1;obtain⟨t2,rfl,rfl⟩:=h2;have qh:=ol hb.2.1;have B1:=ol hb.2.2;rw[yS] at qh B1;rw[hf];refine (hc t1 t2 w (by rw[Lib.size_eq];lia) (by rw[Lib.size_eq];lia) (abb hb.1)).mono ?_
   rintro e w' ⟨rfl,hw⟩;refine⟨_,rfl,JR hw,fun S=>JS ?_⟩;simp only[Lib.trimS,Lib.trimLeftS,Lib.trimRightS];rw[<-yay,Ud,<-yay,Ud]
 .cases h
def ams(hf:O.ae n=f)(fK:∀args w,(callFunc f args).run O.P w=.ok (.enter f args) w)(hc:∀(s:ByteArray) (c:Nat) (w:yk),c<=9223372036854775807->s.size*c<=140737488355328->wB O.P f #[.string s,.int .i64 c] w fun e w'=>e=.returned (.string ⟨(Lib.repeatL s.data.toList c).toArray⟩)/\RowKit.Below w.heap.size w w'):
  ∀au r,CG au=Gp r->eG O n au r:=by
 intro au r h;unfold CG at h
 split at h
 .rename_i s c
  cases hb:(yB c 1099511627776&&yB (s.length*c) 1099511627776) with
  | false=>rw[hb] at h;cases h
  | true=>
   rw[hb] at h;simp only[yu,yc] at h;subst h;simp only[ye] at hb;have l1:=yt hb.1;have l2:=yt hb.2;refine pn Kp (by rw[hf];exact fK) ?_
   intro w S args hg dU;obtain⟨u,v,rfl,h1,h2⟩:=C6 dU;obtain⟨t1,rfl,rfl⟩:=h1;subst h2;rw[hf];rw[yS] at l2;refine (hc t1 c w (by lia) (by rw[Lib.size_eq];lia)).mono ?_
   rintro e w' ⟨rfl,hw⟩;exact⟨_,rfl,JR hw,fun S=>JS (acV _ _).symm⟩
 .cases h
def apy(hf:O.ae n=f)(fK:∀args w,(callFunc f args).run O.P w=.ok (.enter f args) w)(hc:∀(z:Int) (w:yk),-9223372036854775808<=z->z<=9223372036854775807->C1 O w->wB O.P f #[.int .i64 z] w fun e w'=>e=.returned (.string ⟨(Lib.itoa z).toArray⟩)/\Calm w w'):
  ∀au r,Lt au=Gp r->eG O n au r:=by
 intro au r h;unfold Lt at h
 split at h
 .rename_i z
  cases hb:C5 z with
  | false=>rw[hb] at h;cases h
  | true=>
   rw[hb] at h;simp only[yu,yc] at h;subst h;have hz: -9223372036854775808<=z/\z<=9223372036854775807:=by
    cases z with
    | ofNat k=>have:=ol hb;show -9223372036854775808<=(k:Int)/\(k:Int)<=9223372036854775807;lia
    | negSucc k=>have:=ol hb;lia
   refine pn Kp (by rw[hf];exact fK) ?_
   intro w S args hg dU;obtain⟨u,rfl,h1⟩:=E3 dU;subst h1;rw[hf];refine (hc z w hz.1 hz.2 hg).mono ?_;rintro e w' ⟨rfl,hw⟩;exact⟨_,rfl,hw,fun S=>JS (apv z).symm⟩
 .cases h
def alh(hf:O.ae n=f)(fK:∀args w,(callFunc f args).run O.P w=.ok (.enter f args) w)(hc:∀(z:Nat) (w:yk),z<18446744073709551616->C1 O w->wB O.P f #[.int .u64 z,.int .i64 10] w fun e w'=>e=.returned (.string ⟨(Lib.decDigits z).toArray⟩)/\Calm w w'):
  ∀au r,Co au=Gp r->eG O n au r:=by
 intro au r h;unfold Co at h
 split at h
 .rename_i z
  cases hb:yL z 18446744073709551616 with
  | false=>rw[hb] at h;cases h
  | true=>
   rw[hb] at h;simp only[yu,yc] at h;subst h;refine pn Kp (by rw[hf];exact fK) ?_
   intro w S args hg dU;obtain⟨u,v,rfl,h1,h2⟩:=C6 dU;subst h1;subst h2;rw[hf];refine (hc z w (ol hb) hg).mono ?_;rintro e w' ⟨rfl,hw⟩;exact⟨_,rfl,hw,fun S=>JS (UJ z).symm⟩
 .cases h
def apz(hf:O.ae n=f)(fK:∀args w,(callFunc f args).run O.P w=.ok (.enter f args) w)(hc:∀(s:ByteArray) (z:Int) (w:yk),s.size<=18->Lib.atoi s.data.toList=Gp z->wB O.P f #[.string s] w fun e w'=>e=.returned (.tuple #[.int .i64 z,.nilIface])/\Calm w w'):
  ∀au r,Lu au=Gp r->eG O n au r:=by
 intro au r h;unfold Lu at h
 split at h
 .rename_i s
  cases hb:(yL 0 s.length&&yB s.length 18) with
  | false=>rw[hb] at h;cases h
  | true=>
   rw[hb] at h;simp only[yu] at h;simp only[ye] at hb;have l1:=ol hb.1;have l2:=yt hb.2
   split at h
   .rename_i z hz;simp only[yc] at h;subst h;refine pn (GL (by simp[aW])) (by rw[hf];exact fK) ?_
    intro w S args hg dU;obtain⟨u,rfl,h1⟩:=E3 dU;obtain⟨t1,rfl,rfl⟩:=h1;rw[yS] at l1 l2;have ha:Lib.atoi t1.data.toList=Gp (z:Int):=apw hz l1;rw[hf];refine (hc t1 z w (by rw[Lib.size_eq];exact l2) ha).mono ?_
    simp only[af,aA]
    grind
   .cases h
 .cases h
def anx(hf:O.ae n=f)(fK:∀args w,(callFunc f args).run O.P w=.ok (.enter f args) w)(hc:∀(x y:Nat) (w:yk),x<18446744073709551616->y<18446744073709551616->wB O.P f #[.int .u64 x,.int .u64 y] w fun e w'=>e=.returned (.tuple #[.int .u64 ((x*y/18446744073709551616:Nat):Int),.int .u64 ((x*y%18446744073709551616:Nat):Int)])/\w'=w):
  ∀au r,z7 au=Gp r->eG O n au r:=by
 intro au r h;unfold z7 at h
 split at h
 .rename_i x y
  cases hb:(yL x 18446744073709551616&&yL y 18446744073709551616) with
  | false=>rw[hb] at h;cases h
  | true=>
   rw[hb] at h;simp only[yu,yc] at h;subst h;simp only[ye] at hb;refine pn (GL (by simp[aW])) (by rw[hf];exact fK) ?_
   intro w S args hg dU;obtain⟨u,v,rfl,h1,h2⟩:=C6 dU;subst h1;subst h2;rw[hf];refine (hc x y w (ol hb.1) (ol hb.2)).mono ?_;rintro e w' ⟨rfl,rfl⟩;refine⟨_,rfl,Calm.refl,fun S=>?_⟩;simp only[af,aA]
   grind
 .cases h
def anz(hf:O.ae n=f)(fK:∀args w,(callFunc f args).run O.P w=.ok (.enter f args) w)(hc:∀(x:Int) (w:yk),0<=x->x<=18446744073709551615->wB O.P f #[.int .u64 x] w fun e w'=>e=.returned (.int .i64 (Lib.bitLen x.toNat:Nat))/\w'=w):
  ∀au r,KE au=Gp r->eG O n au r:=by
 intro au r h;unfold KE at h
 split at h
 .rename_i x
  cases hb:yL x 18446744073709551616 with
  | false=>rw[hb] at h;cases h
  | true=>
   rw[hb] at h;simp only[yu,yc] at h;subst h
   have:=ol hb
   refine pn Vg (by rw[hf];exact fK) ?_
   intro w S args hg dU;obtain⟨u,rfl,h1⟩:=E3 dU;subst h1;rw[hf];refine (hc (ybE x) w (yau x) (by show (x:Int)<=_;lia)).mono ?_
   rintro e w' ⟨rfl,rfl⟩;refine⟨_,rfl,Calm.refl,fun S=>?_⟩;rw[UK];rfl
 .cases h
def apA(hf:O.ae n=f)(fK:∀args w,(callFunc f args).run O.P w=.ok (.enter f args) w)(hc:∀(x:Int) (w:yk),0<=x->x<=18446744073709551615->wB O.P f #[.int .u64 x] w fun e w'=>e=.returned (.int .i64 (64-(Lib.bitLen x.toNat:Nat)))/\w'=w):
  ∀au r,Hn au=Gp r->eG O n au r:=by
 intro au r h;unfold Hn at h
 split at h
 .rename_i x
  cases hb:yL x 18446744073709551616 with
  | false=>rw[hb] at h;cases h
  | true=>
   rw[hb] at h;simp only[yu,yc] at h;subst h
   have:=ol hb
   have hle:∀f x,Lib.bitLenAux f x<=f:=by
    intro f
    induction f with
    | zero=>intro x;exact yp _
    | succ f ih=>
     intro x;rw[Lib.bitLenAux]
     grind
   refine pn Vg (by rw[hf];exact fK) ?_
   intro w S args hg dU;obtain⟨u,rfl,h1⟩:=E3 dU;subst h1;rw[hf];refine (hc (ybE x) w (yau x) (by show (x:Int)<=_;lia)).mono ?_
   rintro e w' ⟨rfl,rfl⟩;refine⟨_,rfl,Calm.refl,fun S=>?_⟩;simp only[af,UK];show Value.int .i64 (64-(Lib.bitLenAux 64 x:Int))=Value.int .i64 ((64-Lib.bitLenAux 64 x:Nat):Int)
   grind
 .cases h
def alN(hf:O.ae n=f)(hc:∀(b:Nat) (w:yk),(callFunc f #[.float .f64 b]).run O.P w=.ok (.value (.int .u64 b)) w):
  ∀au r,UI au=Gp r->eG O n au r:=by
 intro au r h;unfold UI at h
 split at h
 .rename_i b;simp only[yc] at h;subst h;refine OA Vg ?_;intro w S args dU;obtain⟨u,rfl,h1⟩:=E3 dU;simp only[af] at h1;subst h1;rw[hf];exact⟨_,hc b w,fun S=>rfl⟩
 .cases h
def ald(hf:O.ae n=f)(hc:∀(b:Nat) (w:yk),(callFunc f #[.int .u64 b]).run O.P w=.ok (.value (.float .f64 b)) w):
  ∀au r,To au=Gp r->eG O n au r:=by
 intro au r h;unfold To at h
 split at h
 .rename_i b;simp only[yc] at h;subst h;refine OA ary ?_;intro w S args dU;obtain⟨u,rfl,h1⟩:=E3 dU;simp only[af] at h1;subst h1;rw[hf];exact⟨_,hc b w,fun S=>rfl⟩
 .cases h
def anA(hf:O.ae n=f)(hc:∀(x y c:Nat) (w:yk),c<=1->(callFunc f #[.int .u64 x,.int .u64 y,.int .u64 c]).run O.P w=.ok (.value (.tuple #[.int .u64 (((x+y+c)%18446744073709551616:Nat):Int),.int .u64 (((x+y+c)/18446744073709551616:Nat):Int)])) w):
  ∀au r,pH au=Gp r->eG O n au r:=by
 intro au r h;unfold pH at h
 split at h
 .rename_i x y c
  cases hb:(yB c 1&&(yL x 18446744073709551616&&yL y 18446744073709551616)) with
  | false=>rw[hb] at h;cases h
  | true=>
   rw[hb] at h;simp only[yu,yc] at h;subst h;simp only[ye] at hb;refine OA (GL (by simp[aW])) ?_;intro w S args dU;obtain⟨u,v,z,rfl,h1,h2,h3⟩:=afM dU;subst h1;subst h2;subst h3;rw[hf];refine⟨_,hc x y c w (yt hb.1),fun S=>?_⟩;simp only[af,aA]
   grind
 .cases h
def anB(hf:O.ae n=f)(hc:∀(x y b:Nat) (w:yk),b<=1->(callFunc f #[.int .u64 x,.int .u64 y,.int .u64 b]).run O.P w=.ok (.value (.tuple #[.int .u64 (((x+18446744073709551616-y-b)%18446744073709551616:Nat):Int),.int .u64 ((if x<y+b then 1 else 0:Nat):Int)])) w):
  ∀au r,CO au=Gp r->eG O n au r:=by
 intro au r h;unfold CO at h
 split at h
 .rename_i x y c
  cases hb:(yB c 1&&(yL x 18446744073709551616&&yL y 18446744073709551616)) with
  | false=>rw[hb] at h;cases h
  | true=>
   rw[hb] at h;simp only[yu,yc] at h;subst h;simp only[ye] at hb;have eJ:=yt hb.1;have hy:=ol hb.2.2;refine OA (GL (by simp[aW])) ?_;intro w S args dU;obtain⟨u,v,z,rfl,h1,h2,h3⟩:=afM dU;subst h1;subst h2;subst h3;rw[hf];refine⟨_,hc x y c w eJ,fun S=>?_⟩;simp only[af,aA];refine⟨_,rfl,_,_,rfl,?_,_,_,rfl,?_,rfl⟩
   .grind
   .congr 1
    by_cases h:x<y+c
    .have:yB (y+c) x=ydc:=by
      cases hq:yB (y+c) x with
      | false=>rfl
      | true=>have:=yt hq;lia
     grind
    .rw [yv (by lia),yr h];rfl
 .cases h
end
end
end
end
end VE
