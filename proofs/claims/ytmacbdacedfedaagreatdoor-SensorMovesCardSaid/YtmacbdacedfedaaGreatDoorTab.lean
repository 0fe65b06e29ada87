import Derived.RangeFuncLeaves
import Derived.OrdersIn
import Derived.LoopNIn
import Derived.RangeFuncIn
import Derived.Lib.Index
import Derived.Lib.ItoaNum
import Derived.Lib.Atoi
import Derived.Lib.BitFns
import Derived.Lib.Repeat
import Derived.Lib.SlTrimSet
import Derived.Shelf.Strings.Cut
import Derived.Shelf.Strings.Prefix
import Derived.Shelf.Small.Bits
import Derived.RowKit
import Derived.Test.YtmacbdacedfedaaGreatDoorTaa
set_option linter.all false
set_option maxRecDepth 100000
open Array renaming getD_eq_getD_getElem?->wv,getElem?_append_left->yax,getElem?_eq_getElem->uQ,getElem?_eq_none->yaL,getElem?_eq_some_iff->xt,replicate->uD
open Bool renaming and_eq_true->ye,false_eq_true->yC,not_eq_true'->vS,or_eq_false_iff->yaZ,or_eq_true->uF
open Classical renaming em->uY
open Go renaming Call->yaf,Calls->wE,Code->vz,Deferred->yas,Ending->yba,Exit->uC,Func->yaO,FuncId->tW,LeavesInM->ycP,Loop->uV,Next->yaP,Obj->yar,Oper->yT,Operand->xr,Program->xm,ResultVar->ycN,RoundIn->yby,TypeId->yv,Value->yg,World->yi
open Int renaming natCast_nonneg->yaA,ofNat->ybI
open List renaming all_eq_true->ybA,countP_cons->ybB,getD_eq_getElem?_getD->yD,getElem?_cons_succ->yaM,getElem?_cons_zero->ui,getElem?_eq_getElem->yN,getElem?_eq_some_iff->xG,length_append->yJ,length_cons->yy,length_drop->wD,length_map->yL,length_nil->yH,length_take->yQ,mapM_cons->uO,map_append->xA,map_cons->yZ,map_reverse->yaF,mem_append->xH,mem_cons->xI,mem_cons_of_mem->xL,mem_cons_self->wI,mem_range->wL,size_toArray->tr
open Nat renaming add_mul->xP,add_zero->yW,beq->ym,ble->yA,ble_eq_true_of_le->yt,blt->yI,eq_of_beq_eq_true->yf,eq_of_mul_eq_mul_right->uR,eq_or_lt_of_le->vL,eq_zero_or_pos->xq,le_of_ble_eq_true->yr,le_of_lt_succ->vU,le_refl->yu,le_trans->xo,lt_of_lt_of_le->yE,lt_or_ge->vK,lt_succ_self->yam,mul_le_mul_right->yU,strongRecOn->vP,testBit->vI,testBit_or->ybV,zero_add->yd,zero_le->uN
open Ne renaming symm->ycO
open Option renaming bind_some->wG,getD_some->xF,map_some->wU
open Option.some renaming injEq->yb
open Prod.mk renaming injEq->yj
open UInt8 renaming ofNat->ych,toNat->xg,toNat_ofNat'->ybd
open Option renaming some->Ft,none->Fu
open Bool renaming true->ydh,false->ydi
namespace VE
open Go (IntKind)
section
open Go
section
variable {tmps:Array yg}{seen:List Nat}
section
variable {O:bl}{m m':Mp}{S:Nat->Prop}{w:yi}{f:Nat->Option Nat}
def Gm(f:Nat->Option Nat)(m m':Mp):Prop:=∀id j,f id=Ft j->m' j=m id
mutual
def abx{ab:Nat->Nat}(hf:Gm f m m'):∀(v:AV) (u:yg),ae ab m S w v u->ae ab m' S w (bm f v) u
 | .int _ _,_,h | .bool _,_,h | .ao _ _,_,h | .cW _ _ _,_,h | .str _,_,h | .jY,_,h | .af,_,h | .gU,_,h | .jl,_,h | .undef,_,h=>by
  simpa only[bm,ae] using h
 | .ptr id o,u,h=>by
  simp only[bm]
  cases hi:f id with
  | none=>simp only[ae]
  | some j=>
   simp only[ae] at h ⊢;rw[hf id j hi];exact h
 | .bq cs,u,h=>by
  simp only[bm];exact rS (fun _ h=>h) (fun _ _=>rfl) _ _ (by simp[aW]) h
 | .au ex n cs,u,h=>by
  simp only[bm];exact rS (fun _ h=>h) (fun _ _=>rfl) _ _ (by simp[aW]) h
 | .cF _ _ _ _,u,h=>by simp only[ae] at h
 | .ap id o n,u,h=>by
  simp only[bm]
  cases hi:f id with
  | none=>simp only[ae]
  | some j=>
   simp only[ae] at h ⊢;rw[hf id j hi];exact h
 | .fn (.f g) first cap,u,h=>by
  simp only[bm,ae] at h ⊢;obtain⟨fi,ca,h1,h2,h3⟩:=h;exact⟨fi,ca,h1,BU hf first _ h2,BU hf cap _ h3⟩
 | .fn (.y l) first cap,u,h=>by
  simp only[bm]
  cases hi:f l with
  | none=>simp only[ae]
  | some j=>
   simp only[ae] at h ⊢;rw[hf l j hi];exact h
 | .map id,u,h=>by
  simp only[bm]
  cases hi:f id with
  | none=>simp only[ae]
  | some j=>
   simp only[ae] at h ⊢;rw[hf id j hi];exact h
 | .jm ks vs,u,h=>by
  simp only[bm];exact rS (fun _ h=>h) (fun _ _=>rfl) _ _ (by simp[aW]) h
 | .it id,u,h=>by
  simp only[bm]
  cases hi:f id with
  | none=>simp only[ae]
  | some j=>
   simp only[ae] at h ⊢;rw[hf id j hi];exact h
 | .agg cs,u,h=>by
  simp only[bm,ae] at h ⊢;obtain⟨xs,h1,h2⟩:=h;exact⟨xs,h1,BU hf cs _ h2⟩
 | .ax cs,u,h=>by
  simp only[bm,ae] at h ⊢;obtain⟨xs,h1,h2⟩:=h;exact⟨xs,h1,BU hf cs _ h2⟩
def BU{ab:Nat->Nat}(hf:Gm f m m'):∀(vs:List AV) (us:List yg),az ab m S w vs us->az ab m' S w (dB f vs) us
 | [],us,h=>by simpa only[dB,az] using h
 | v::r,us,h=>by
  simp only[dB,az] at h ⊢;have⟨u,t,h1,h2,h3⟩:=h;exact⟨u,t,h1,abx hf v u h2,BU hf r t h3⟩
end
def akX{ab:Nat->Nat}(hf:Gm f m m'){cs:List AV}{b o:Nat}(h:bL ab m S w cs b o):bL ab m' S w (dB f cs) b o:=by
 have⟨us,h1,_,h3⟩:=zi cs b o h;exact FD _ us o (BU hf cs us h1) h3
def Si:∀cs:List AV,(dB f cs).length=cs.length
 | []=>rfl
 | c::r=>by simp[dB,Si r]
def aab:∀(tm:Env) (i:Nat),ak (eO f tm) i=bm f (ak tm i)
 | [],i=>by simp[eO,ak,bm]
 | (j,v)::r,i=>by
  simp only[eO,ak]
  cases ym j i with
  | true=>rfl
  | false=>exact aab r i
def Zm(tm:Env)(i:Nat):∀live:List Nat,ak (bE tm live) i=ak tm i\/ak (bE tm live) i=.undef
 | []=>.inr rfl
 | j::r=>by
  simp only[bE,ak]
  cases hb:ym j i with
  | true=>rw[yf hb];exact .inl rfl
  | false=>exact Zm tm i r
def aac{tm:Env}(hf:Gm f m m')(h:bO O m S w tm tmps):bO O m' S w (eO f tm) tmps:=fun i=>by
 rw[aab];exact abx hf _ _ (h i)
def amR{id j:Nat}{o:Obj}{p:Pl}(hf:Gm f m m')(hm:m id=Ft p)(hj:m' j=Ft p)(h:eY O m S w id o):eY O m' S w j (gE f o):=by
 cases o with
 | cells rw pu ex sz cs=>
  have⟨q,arr,t,h1,h2,h3,h4,h5,h6,h7,h8,h9,iK⟩:=h;rw[hm] at h1;injection h1 with h1;subst h1
  cases pu with
  | true=>exact⟨p,arr,t,hj,h2,h3,h4,h5,h6,BK (fun _ h=>h) (fun _ _=>rfl) _ _ _ (h8 rfl) rfl h7,h8,h9,iK⟩
  | false=>exact⟨p,arr,t,hj,h2,h3,by rw[yO,Si];exact h4,h5,by rw[yO,Si];exact h6,akX hf h7,by simp,h9,iK⟩
 | mp rw ks vs=>
  have⟨q,es,clock,h1,h2,h3,h4,h5,h6⟩:=h;rw[hm] at h1;injection h1 with h1;subst h1
  exact⟨p,es,clock,hj,h2,BU hf _ _ h3,BU hf _ _ h4,h5,h6⟩
 | si s pos=>
  have⟨q,t,h1,h2,h3,h4⟩:=h;rw[hm] at h1;injection h1 with h1;subst h1
  exact⟨p,t,hj,h2,h3,h4⟩
 | lp tm ps as_ body st pe=>
  have⟨q,l,hi,h1,h2,h3,h4,h5,h6,h7,h8⟩:=h;rw[hm] at h1;injection h1 with h1;subst h1
  exact⟨p,l,hi,hj,h2,h3,h4,h5,h6,aac hf h7,h8⟩
def Zn{i:Nat}:∀{l:List Nat} {k j:Nat},gV i l k=Ft j->k<=j/\l[j-k]? =Ft i
 | [],k,j,h=>by simp[gV] at h
 | x::r,k,j,h=>by
  simp only[gV] at h
  cases hb:ym x i with
  | true=>
   simp_all
  | false=>
   rw[hb] at h;have⟨h1,h2⟩:=Zn h
   grind
def qt{a b:Nat}:yI a b=ydh↔a<b:=by simp_all
def MB{hp:Hp}{j:Nat}{o':Obj}:∀{l:List Nat} {k:Nat} {acc:Hp},ai (ew hp f l k acc) j=Ft o'->
  (∃i id o,l[i]? =Ft id/\j=k+i/\ai hp id=Ft o/\o'=gE f o)\/ai acc j=Ft o'
 | [],k,acc,h=>.inr h
 | x::r,k,acc,h=>by
  simp only[ew] at h
  cases hx:ai hp x with
  | none=>
   simp only[hx] at h;rcases MB h with ⟨i,id,o,h1,h2,h3,h4⟩ | h
   .exact .inl ⟨i+1,id,o,by simpa using h1,by lia,h3,h4⟩
   .grind
  | some o=>
   simp only[hx] at h;rcases MB h with ⟨i,id,o,h1,h2,h3,h4⟩ | h
   .exact .inl ⟨i+1,id,o,by simpa using h1,by lia,h3,h4⟩
   .rw [fo] at h;by_cases hc:k=j
    .simp only [hc,xQ,yb] at h;exact .inl ⟨0,x,o,by simp,by lia,hx,h.symm⟩
    .grind
def MC{base:Nat}{j:Nat}{o':Obj}:∀{hp:Hp},ai (fI base f hp) j=Ft o'->j<base/\∃o,ai hp j=Ft o/\o'=gE f o
 | [],h=>by simp[fI,ai] at h
 | (i,q)::r,h=>by
  simp only[fI] at h
  cases hb:yI i base with
  | true=>
   rw[hb] at h;simp only[yq] at h;rw[fo] at h;by_cases hc:i=j
   .simp only [hc,xQ,yb] at h;exact⟨by rw[<-hc];exact qt.1 hb,q,by rw[fo];simp[hc],h.symm⟩
   .simp only [hc,xy] at h;have⟨h1,o,h2,h3⟩:=MC h;exact⟨h1,o,by rw[fo];simp[hc,h2],h3⟩
  | false=>
   rw[hb] at h;have⟨h1,o,h2,h3⟩:=MC h;have hc:¬i=j:=fun e=>by
    have:=qt.2 h1
    grind
   exact⟨h1,o,by rw[fo];simp[hc,h2],h3⟩
def qP(m:Mp)(base:Nat)(seen:List Nat):Mp:=fun j=>
 if j<base then m j else match seen[j-base]? with
  | some id=>if gB base seen id=Ft j then m id else Fu
  | none=>Fu
def RO{base:Nat}{j:Nat}{p:Pl}(h:qP m base seen j=Ft p):∃id,gB base seen id=Ft j/\m id=Ft p/\(j<base->id=j):=by
 unfold qP at h
 split at h
 .rename_i hj;exact⟨j,by simp[gB,qt.2 hj],h,fun _=>rfl⟩
 .grind
def amS{base:Nat}:Gm (gB base seen) m (qP m base seen):=by
 intro id j h;have h0:=h;unfold gB at h
 cases hb:yI id base with
 | true=>
  rw[hb] at h;simp only[yq,yb] at h;subst h;simp[qP,qt.1 hb]
 | false=>
  rw[hb] at h;have⟨h1,h2⟩:=Zn h
  have:¬j<base:=by lia
  simp only[qP,this,xy,h2,h0,xQ]
def Rk{s:St}{live:List Nat}(ht:bO O m S w s.tm tmps)(hh:aR O m S w s.hp s.ct)(hb:s.base<=s.ct):
  ∃m',bO O m' S w (br live s).tm tmps/\aR O m' S w (br live s).hp (br live s).ct/\(br live s).base=s.base/\s.base<=(br live s).ct/\bU m S w s.hp m' S w (br live s).hp s.base:=by
 simp only[br];generalize Og:reach s.hp s.base 100000 (dL (bE s.tm live)++cI s.base s.hp) []=seen;have hr:=amS (m:=m) (base:=s.base) (seen:=seen);have aM:∀j p,qP m s.base seen j=Ft p->j<s.base+seen.length:=by
  intro j p h;unfold qP at h
  grind
 have back:∀j o' p,ai (ew s.hp (gB s.base seen) seen s.base (fI s.base (gB s.base seen) s.hp)) j=Ft o'->qP m s.base seen j=Ft p->
   ∃id o,gB s.base seen id=Ft j/\ai s.hp id=Ft o/\m id=Ft p/\o'=gE (gB s.base seen) o:=by
  intro j o' p ho hm;have⟨id,h1,h2,h3⟩:=RO hm;rcases MB ho with ⟨i,Wp,o,g1,g2,g3,g4⟩ | ho
  .have hj:¬j<s.base:=by lia
   have:qP m s.base seen j=if gB s.base seen Wp=Ft j then m Wp else Fu:=by
    simp only[qP,hj,xy,show j-s.base=i by lia,g1]
   grind
  .have ⟨g1,o,g2,g3⟩:=MC ho
   grind
 refine⟨qP m s.base seen,?_,⟨?_,aM,?_,hh.slt,?_,?_,hh.mB,hh.fY,fun j o' ho=>(by
  rcases MB ho with ⟨i,Wp,o,g1,g2,g3,g4⟩ | ho
  .grind
  .have:=(MC ho).1;lia)⟩,by trivial,by lia,⟨rfl,rfl,rfl,yu _,fun _ _ _=>rfl,fun _ h=>h,fun _ _=>rfl,fun _ h=>.inl h,?_,?_,fun _ r h=>⟨r,h⟩⟩⟩
 .refine aac hr (fun i=>?_);rcases Zm s.tm i live with h | h
  .rw [h];exact ht i
  .rw [h];simp only[ae]
 .intro j o' p ho hm;obtain⟨id,o,h1,h2,h3,rfl⟩:=back j o' p ho hm;exact amR hr h3 hm (hh.obj id o p h2 h3)
 .intro i j oi oj pi pj hi hj bD gK e;have⟨idi,o1,a1,a2,a3,_⟩:=back i oi pi hi bD;have⟨idj,o2,b1,b2,b3,_⟩:=back j oj pj hj gK
  have:=hh.inj idi idj o1 o2 pi pj a2 b2 a3 b3 e
  grind
 .intro j p hm;have⟨id,_,h2,_⟩:=RO hm;exact hh.blt id p h2
 .intro j p hm;have⟨id,_,h2,_⟩:=RO hm;exact hh.low id p h2
 .rintro b ⟨j,o',p,h1,h2,h3⟩;have⟨id,o,_,g2,g3,_⟩:=back j o' p h1 h2;exact .inl ⟨id,o,p,g2,g3,h3⟩
 .intro id p hid hm;simp[qP,hid,hm]
end
end
end
section
open Go
section
variable {v:AV}{an:Hp}{lo:Nat}{u:yg}
section
variable {O:bl}{m:Mp}{S:Nat->Prop}{w:yi}{hp:Hp}{ct:Nat}
def aad(hh:aR O m S w hp ct)(id:Nat):aR O m S w (cC hp id) ct:=by
 have sub:∀i o,ai (cC hp id) i=Ft o->ai hp i=Ft o:=fun i o h=>by
  rw[IT] at h
  grind
 exact⟨fun i o p h hm=>hh.obj i o p (sub i o h) hm,hh.lt,fun i j oi oj pi pj hi hj=>hh.inj i j oi oj pi pj (sub i oi hi) (sub j oj hj),hh.slt,hh.blt,hh.low,hh.mB,hh.fY,fun i o h=>hh.aM i o (sub i o h)⟩
def aby{id b:Nat}(h:dV m (cC hp id) b):dV m hp b:=by
 have⟨i,o,p,h1,h2,h3⟩:=h;rw[IT] at h1;by_cases hc:id=i
 .grind
 .simp only [hc,xy] at h1;exact⟨i,o,p,h1,h2,h3⟩
def X7(hh:aR O m S w hp ct){id:Nat}{o:Obj}{p:Pl}(hg:ai hp id=Ft o)(hm:m id=Ft p):¬dV m (cC hp id) p.b:=by
 rintro⟨i,o',q,h1,h2,h3⟩;rw[IT] at h1;by_cases hc:id=i
 .grind
 .simp only [hc,xy] at h1;exact hc (hh.inj i id o' o q p h1 hg h2 hm h3).symm
def aoX(hd:kK hp an){b:Nat}(h:dV m an b):dV m hp b:=by
 have⟨i,o,p,h1,h2,h3⟩:=h
 have:=hd i
 rw[h1] at this
 cases hq:ai hp i with
 | none=>rw[hq] at this;cases this
 | some q=>exact⟨i,q,p,hq,h2,h3⟩
def YB{v':AV}{n:Nat}(hh:aR O m S w hp ct)(hf:freeze n hp v=Ft (v',an))(hv:ae O.ab m S w v u):
  ∃S',aR O m S' w an ct/\(∀b,S b->S' b)/\(∀b,S' b->S b\/dV m hp b)/\aW v'=ydh/\ae O.ab eR S' w v' u/\jr O.ab S' w lo v' u []:=by
 have⟨h1,h2,h3⟩:=RL (O:=O) hf;have⟨S',g1,g2,g3⟩:=abn hh h1 (fun id o p ho hm=>by
  have:=h2 id
  rw[ho] at this
  cases hq:ai hp id with
  | none=>rw[hq] at this;cases this
  | some q=>exact⟨q,rfl⟩) (yu _) (fun id o ho=>(by
  have:=h2 id
  rw[ho] at this
  cases hq:ai hp id with
  | none=>rw[hq] at this;cases this
  | some q=>exact hh.aM id q hq))
 have⟨k1,k2⟩:=h3 an m S' w ct cJ.refl g1;have hr:=k1 u (mo (fun _ _ h=>h) g2 (fun _ _=>rfl) v u hv);have bA:ae O.ab eR S' w v' u:=rS (fun _ h=>h) (fun _ _=>rfl) v' u k2 hr;refine⟨S',g1,g2,g3,k2,bA,?_⟩
 cases v' with
 | cF _ _ _ _=>simp[aW] at k2
 | _=>exact⟨rfl,bA,k2⟩
def akY{S':Nat->Prop}{bs:List Nat}(hS:∀b,S b->S' b)(hn:∀b,b∈bs->¬S' b)(h:jr O.ab S w lo v u bs):jr O.ab S' w lo v u bs:=by
 cases v with
 | cF ex sz n cs=>
  obtain⟨b,o,c,arr,t,rfl,rfl,g1,g2,g3,g4,g5,g6,g7,g8,g9⟩:=h;exact⟨b,o,c,arr,t,rfl,rfl,g1,g2,g3,hn b (by simp),g5,g6,g7,BK hS (fun _ _=>rfl) cs b o g9 rfl g8,g9⟩
 | _=>simp only[jr] at h ⊢;exact⟨h.1,rS hS (fun _ _=>rfl) _ _ h.2.2 h.2.1,h.2.2⟩
def Zo{v':AV}{n:Nat}(hh:aR O m S w hp ct)(hf:qB n hp v=Ft (v',an))(hv:ae O.ab m S w v u)(bc:∀b,dV m hp b->lo<=b):
  ∃S' bs,aR O m S' w an ct/\(∀b,S b->S' b)/\(∀b,S' b->S b\/dV m hp b)/\jr O.ab S' w lo v' u bs/\bs.Nodup/\(∀b,b∈bs->dV m hp b/\¬dV m an b)/\(∀b,dV m an b->dV m hp b):=by
 have frozen:freeze n hp v=Ft (v',an)->∃S' bs,aR O m S' w an ct/\(∀b,S b->S' b)/\(∀b,S' b->S b\/dV m hp b)/\jr O.ab S' w lo v' u bs/\bs.Nodup/\(∀b,b∈bs->dV m hp b/\¬dV m an b)/\(∀b,dV m an b->dV m hp b):=by
  intro hz;have⟨S',g1,g2,g3,g4,g5,g6⟩:=YB (lo:=lo) hh hz hv
  exact⟨S',[],g1,g2,g3,g6,by simp,by simp,fun b hb=>aoX (RL (O:=O) hz).2.1 hb⟩
 unfold qB at hf
 split at hf
 .rename_i id o k
  split at hf
  .rename_i ex sz cs hg
   cases hc:yA (o+k*sz) cs.length with
   | false=>rw[hc] at hf;cases hf
   | true=>
    rw[hc] at hf;obtain⟨rfl,rfl⟩:=hf;have hle:=yr hc;obtain⟨p,c,hm,rfl,h1,h2⟩:=hv;have⟨p',arr,t,g1,g2,g3,g4,g5,g6,g7,g8,g9,g10⟩:=hh.obj id _ _ hg hm;rw[hm] at g1;injection g1 with g1
    subst g1;rw[g3] at h2;refine⟨S,[p.b],aad hh id,fun _ h=>h,fun _ h=>.inl h,?_,by simp,?_,fun b hb=>aby hb⟩
    .refine ⟨p.b,p.o+o,c,arr,t,rfl,rfl,h1,?_,bc _ (Jm hg hm),g9 rfl,g2,?_,by lia,?_,BJ _ (Aw _ _ (g8 rfl))⟩
     .intro hx;simp only[ye] at hx;have e1:=yf hx.2;have e2:=qt.1 hx.1.2;have e3:=g6 hx.1.1
      have:c*sz=k*sz:=by lia
      exact uR e2 this
     .simp only [slice,yQ,wD];lia
     .exact BK (fun _ h=>h) (fun _ _=>rfl) _ _ _ (BJ _ (Aw _ _ (g8 rfl))) rfl (Av _ _ _ _ (rO _ _ _ _ g7))
    .intro b hb;simp only[List.mem_singleton] at hb;subst hb;exact⟨Jm hg hm,X7 hh hg hm⟩
  .grind
 .grind
def YC{lo n:Nat}:∀{vs ej:List AV} {us:List yg} {hp an:Hp} {S:Nat->Prop},aR O m S w hp ct->DL n hp vs=Ft (ej,an)->az O.ab m S w vs us->(∀b,dV m hp b->lo<=b)->
  ∃S' bs,(∀b,S b->S' b)/\(∀b,S' b->S b\/dV m hp b)/\lQ O.ab S' w lo ej us bs/\bs.Nodup/\(∀b,b∈bs->dV m hp b)/\(∀b,S' b->b<w.heap.size)
 | [],ej,us,hp,an,S,hh,hf,hv,bc=>by
  obtain⟨rfl,rfl⟩:=hf;exact⟨S,[],fun _ h=>h,fun _ h=>.inl h,by simp only[lQ];exact⟨hv,by trivial⟩,by simp,by simp,hh.slt⟩
 | v::r,ej,us,hp,an,S,hh,hf,hv,bc=>by
  simp only[DL] at hf
  cases h1:qB n hp v with
  | none=>simp[h1] at hf
  | some q=>
   have⟨v1,aY⟩:=q;simp only[h1] at hf
   cases h2:DL n aY r with
   | none=>simp[h2] at hf
   | some q2=>
    simp only[h2,yb,yj] at hf;obtain⟨rfl,rfl⟩:=hf;obtain⟨u,t,rfl,eS,dE⟩:=hv;have⟨S1,b1,k1,k2,k3,k4,k5,k6,k7⟩:=Zo (lo:=lo) hh h1 eS bc;have⟨S2,b2,g1,g2,g3,g4,g5,g6⟩:=YC (us:=t) k1 h2 (ij (fun _ _ h=>h) k2 (fun _ _=>rfl) _ _ dE) (fun b hb=>bc b (k7 b hb));have UQ:∀b,b∈b1->¬S2 b:=by
     intro b hb hs;rcases g2 b hs with h | h
     .cases v1 with
      | cF ex sz n cs=>
       simp only[jr] at k4
       grind
      | _=>simp only[jr] at k4;rw[k4.1] at hb;cases hb
     .grind
    refine⟨S2,b1++b2,fun b hb=>g1 b (k2 b hb),fun b hb=>?_,?_,?_,?_,g6⟩
    .grind
    .simp only [lQ];exact⟨u,t,b1,b2,rfl,rfl,akY g1 UQ k4,g3⟩
    .grind
    .grind
def RP{lo:Nat}:∀{cs:List AV} {us:List yg},aD cs=ydh->az O.ab eR S w cs us->lQ O.ab S w lo cs us []
 | [],us,_,h=>by simp only[az] at h;exact⟨h,by trivial⟩
 | c::r,us,hp,h=>by
  obtain⟨u,t,rfl,h1,h2⟩:=h;simp only[aD,ye] at hp;refine⟨u,t,[],[],rfl,rfl,?_,RP hp.2 h2⟩
  cases c with
  | cF _ _ _ _=>simp[aW] at hp
  | _=>exact⟨rfl,h1,hp.1⟩
def akZ{r:AV}(hh:aR O m S w hp ct)(hr:result hp v=Ft r)(hv:ae O.ab m S w v u)(bc:∀b,dV m hp b->lo<=b):
  ∃S',(∀b,S b->S' b)/\(∀b,S' b->S b\/dV m hp b)/\(∀b,S' b->b<w.heap.size)/\pn O.ab S' w lo r u:=by
 unfold result at hr
 split at hr
 .rename_i vs
  split at hr
  .cases h1:DL deep hp vs with
   | none=>simp[h1] at hr
   | some q=>
    simp only[h1,yb] at hr;subst hr;obtain⟨us,rfl,hv⟩:=hv;have⟨S',bs,g1,g2,g3,g4,g5,g6⟩:=YC (lo:=lo) hh h1 hv bc;exact⟨S',g1,g2,g6,us,bs,rfl,g3,g4⟩
  .cases h1:freeze deep hp (.ax vs) with
   | none=>simp[h1] at hr
   | some q=>
    have⟨v',an⟩:=q;simp only[h1,yb] at hr;subst hr;have⟨S',g1,g2,g3,g4,g5,g6⟩:=YB (lo:=lo) hh h1 hv;refine⟨S',g2,g3,g1.slt,?_⟩
    cases v' with
    | ax cs=>
     obtain⟨xs,rfl,g5⟩:=g5;exact⟨xs,[],rfl,RP (by simpa[aW] using g4) g5,by simp⟩
    | _=>exact⟨[],g6⟩
 .rename_i PZ
  cases h1:qB deep hp v with
  | none=>simp[h1] at hr
  | some q=>
   have⟨v',an⟩:=q;simp only[h1,yb] at hr;subst hr;have⟨S',bs,g1,g2,g3,g4,_⟩:=Zo (lo:=lo) hh h1 hv bc;refine⟨S',g2,g3,g1.slt,?_⟩
   cases v' with
   | ax cs=>
    obtain⟨rfl,h2,h3⟩:=g4;obtain⟨xs,rfl,h2⟩:=h2;exact⟨xs,[],rfl,RP (by simpa[aW] using h3) h2,by simp⟩
   | _=>exact⟨bs,g4⟩
end
end
end
section
open Go
def WF(ro:Option Nat):Fence:={Fence.wide with round:=ro}
section
variable {O:bl}
def acn(O:bl)(hp:Hp)(ct:Nat)(l:Nat)(xs:List AV)(v:AV)(an:Hp)(aH:Nat):Prop:=
 ∀(m:Mp) (S:Nat->Prop) (w:yi) (args:Array yg) (p:Pl),aR O m S w hp ct->m l=Ft p->az O.ab m S w xs args.toList->
  ∃f tmps assign body,(Instr.yield p.b args).run O.P w=.ok (.round p.b f tmps assign body) w/\yby Fence.wide 0 O.P p.b f tmps assign body w (AB O m S w hp ct v an aH)
structure oV(O:bl)(run:cd):Prop where
 pure:∀n aq r,bT O.prog O.aI run n aq=Ft r->dZ O n aq r
 heap:∀hp ct n aq v an aH,iv O.prog O.aI run hp ct n aq=Ft (v,an,aH)->Co O n hp ct aq v an aH
 round:∀hp ct l xs v an aH,fV run hp ct l xs=Ft (v,an,aH)->acn O hp ct l xs v an aH
end
section
variable {P:xm}{o:yT}{a:Act}{w:yi}{ro:Option Nat}{next:Act->yi->Prop}{Q:uC->Act->yi->Prop}
def MD{c:yaf}{f:xr}(ho:o.op=.call c)(hc:c.callee=.value f){g:tW}{fi ca:Array yg}(hf:a.eval f=.func (.func g) fi ca){R:yba->yi->Prop}(h:B0 P g (fi++c.args.map a.eval++ca) w R)(hn:∀e w',R e w'->∃u,e=.returned u/\next (a.put o.dst u) w'):o.wpIn (WF ro) 0 P a w next Q:=by
 have dM:(o.semAt ro a.eval).run P w=(callFunc g (fi++c.args.map a.eval++ca)).run P w:=by
  rw[Oper.semAt_eq _ _ _ (fun c' h'=>by rw[ho] at h';cases h')];simp only[execOp,ho,resolve,hc,Deferred.ofValue,hf,Sem.run_bind,Sem.run_pure,Result.andThen_ok,invoke]
 refine⟨fun _ _=>trivial,?_⟩;show o.uponIn (WF ro) 0 P a next Q ((o.semAt ro a.eval).run P w)
 rw[dM];rcases h with ⟨h1,h2⟩ | ⟨u,w',h1,h2⟩
 .rw [h1,Oper.uponIn_enter];refine⟨fun h=>by simp[WF,Fence.wide] at h,?_⟩;have h3:CallsIn (WF ro) 0 P g (fi++c.args.map a.eval++ca) w R:=h2;refine CallsIn.mono h3 (fun e w' he=>?_);obtain⟨u,rfl,hq⟩:=hn e w' he;exact hq
 .rw [h1];have⟨u',e,hq⟩:=hn _ _ h2;injection e with e
  subst e;exact hq
def amT{c:yaf}{f:xr}(ho:o.op=.call c)(hc:c.callee=.value f){l:Nat}(hf:a.eval f=.func (.yield l) #[] #[]){R:yba->yi->Prop}{g:tW}{tmps:Array yg}{assign body:vz}(hy:(Instr.yield l (c.args.map a.eval)).run P w=.ok (.round l g tmps assign body) w)(h:yby Fence.wide 0 P l g tmps assign body w R)(hn:∀e w',R e w'->∃u,e=.returned u/\next (a.put o.dst u) w'):o.wpIn (WF ro) 0 P a w next Q:=by
 have dM:(o.semAt ro a.eval).run P w=.ok (.round l g tmps assign body) w:=by
  rw[Oper.semAt_eq _ _ _ (fun c' h'=>by rw[ho] at h';cases h')];simp only[execOp,ho,resolve,hc,Deferred.ofValue,hf,Sem.run_bind,Sem.run_pure,Result.andThen_ok,invoke,Array.empty_append];exact hy
 refine⟨fun _ _=>trivial,?_⟩;show o.uponIn (WF ro) 0 P a next Q ((o.semAt ro a.eval).run P w)
 rw[dM,Oper.uponIn_round];refine⟨fun h=>by simp[WF,Fence.wide] at h,?_⟩;have h3:yby (WF ro) 0 P l g tmps assign body w R:=h;refine RoundIn.mono h3 (fun e w' he=>?_);obtain⟨u,rfl,hq⟩:=hn e w' he;exact hq
def F1{n:yaP}{u:yg}{w':yi}(hd:∀c,o.op≠.defer c)(h:(execOp a.eval o).run P w=.ok n w')(hn:n=.value u\/(n=.skip/\u=undef))(hq:next (a.put o.dst u) w'):o.wpIn (WF ro) 0 P a w next Q:=by
 refine⟨fun _ _=>trivial,?_⟩;show o.uponIn (WF ro) 0 P a next Q ((o.semAt ro a.eval).run P w)
 rw[Oper.semAt_eq _ _ _ hd,h];rcases hn with rfl | ⟨rfl,rfl⟩
 .exact hq
 .exact hq
end
def oc(P:xm)(H:Hint)(q:Op)(o:yT):Prop:=
 (∃k,q=aP P H k o)\/(∃c f rs,o.op=.call c/\c.callee=.value f/\q=.jF rs (aK H f) (iC H c.args.toList))\/
  (∃t x y sz rs,o.op=.store t x y/\bZ P t=Ft sz/\q=.kS rs sz (aK H x) (aK H y))\/
  (∃k rs sz b x y,Op.cQ sz b x y=aP P H k o/\q=.lV rs sz b x y)\/(∃k sz b x y,Op.cQ sz b x y=aP P H k o/\q=.q9 sz b x y)\/∃k n sz z ps,Op.iB n sz z ps=aP P H k o/\q=.pL n sz z ps
def jH:Op->Op
 | .jF _ f xs=>.jF [] f xs
 | .kS _ s x v=>.st s x v
 | .lV _ s b x v=>.cQ s b x v
 | o=>o
section
variable {O:bl}{H:Hint}{m:Mp}{S:Nat->Prop}{w:yi}{tm:Env}{a:Act}{hp:Hp}{ct:Nat}{self:cd}{ro:Option Nat}{next:Act->yi->Prop}{Q:uC->Act->yi->Prop}
def NB{o:yT}{k:Nat}{md:Md}{x:X}{xs:List X}(h:aP O.P H k o=.call md x xs)(hb:x≠.c .undef):∃c f,o.op=.call c/\c.callee=.value f/\x=aK H f/\xs=iC H c.args.toList:=by
 have nb:bad=.call md x xs->False:=fun h=>by simp only[bad,Op.call.injEq] at h;exact hb h.2.1.symm
 cases ho:o.op with
 | call c=>
  have⟨callee,args,ts⟩:=c;simp only[aP,ho] at h
  split at h
  .rename_i f;cases hm:H.mode k<;>simp only[hm,Op.call.injEq,reduceCtorEq] at h
   all_goals exact⟨_,f,rfl,rfl,h.2.1.symm,h.2.2.symm⟩
  .repeat' split at h
   all_goals first
    | exact (nb h).elim
    | (cases h;done)
    | (revert h;generalize ym _ _=bb;intro h;cases bb<;>first | exact (nb h).elim | (cases h;done))
  .exact (nb h).elim
 | binOp op t x' y ty=>
  cases op<;>simp only[aP,ho,nR,oU] at h
  case eql=>
        repeat' split at h
        all_goals first
         | exact (nb h).elim
         | (cases h;done)
         | (cases bH:(O.P.stoodInHeld t||O.P.eqGuardType O.P.depth t)<;>rw[bH] at h<;>first | exact (nb h).elim | (cases h;done))
  case neq=>
        repeat' split at h
        all_goals first
         | exact (nb h).elim
         | (cases h;done)
         | (cases bH:(O.P.stoodInHeld t||O.P.eqGuardType O.P.depth t)<;>rw[bH] at h<;>first | exact (nb h).elim | (cases h;done))
  all_goals cases h
 | buildSlice t n parts=>
  simp only[aP,ho] at h
  repeat' split at h
  all_goals first
   | exact (nb h).elim
   | (cases h;done)
   | (revert h;generalize yA _ _=bb;intro h;cases bb<;>first | exact (nb h).elim | (simp only[yq] at h;cases h;done))
 | makeMap t r=>
  cases r<;>simp only[aP,ho] at h
  .repeat' split at h
   all_goals first
    | exact (nb h).elim
    | (cases h;done)
  .exact (nb h).elim
 | next x' b=>
  cases b<;>simp only[aP,ho] at h
  .exact (nb h).elim
  .cases h
 | _=>
  simp only[aP,ho] at h
  (repeat' split at h)
  all_goals first
   | contradiction
   | exact (nb h).elim
   | (cases h;done)
def ajX{o:yT}{k:Nat}{r:AV×Hp×Nat}(hv:aX O.prog O.aI self tm hp ct (aP O.P H k o)=Ft r):∀c,o.op≠.defer c:=by
 intro c ho;simp[aP,ho,bad,aX,er,ay] at hv
end
end
section
open Go
section
variable {v:AV}{Hq:Hp}{sz:Nat}{cX:Obj}
section
variable {O:bl}{H:Hint}{m:Mp}{S:Nat->Prop}{w:yi}{tm:Env}{a:Act}{hp:Hp}{ct cq:Nat}
def gC(tm:Env)(hp:Hp)(ct:Nat):Op->Option (AV×Obj)
 | .cQ sz b x y=>zF hp ct sz b (ay tm x) (jh hp sz (ay tm y))
 | _=>Fu
def Tw(O:bl)(m:Mp)(S:Nat->Prop)(w:yi)(a:Act)(ct:Nat)(o:yT)(v:AV)(b:Obj):Prop:=
 ∃u g p,(execOp a.eval o).run O.P w=.ok (.value u) (w.drew.alloc g)/\p.b=w.heap.size/\¬je b/\
  ∀m',cY m m'->m' ct=Ft p->eY O m' S (w.drew.alloc g) ct b/\ae O.ab m' S (w.drew.alloc g) v u
def amU{e:yv}{z:yg}{need cap:Nat}{cs:List AV}{us:List yg}(hh:aR O m S w hp cq)(hr:az O.ab m S w cs us)(hl:us.length=need*sz)(hz:z.cells.size=sz)(Eh:Bool)(Wo:Eh=ydh->aD cs=ydh)(hc:need<=cap):
  let w':=w.drew.alloc (.cells (us.toArray++Builtin.zeroCells z.cells (cap-need)) e)
  let p:Pl:=⟨w.heap.size,0,cap*sz,sz⟩
  ∀m',cY m m'->m' ct=Ft p->eY O m' S w' ct (.cells ydh Eh ydi sz cs):=by
 intro w' p m' hm hi;have aT:fR S w w':=fun b hb=>by
  have:=hh.slt b hb
  exact RowKit.Below.heap_alloc w.drew _ b (by simpa using this)
 have iD:w'.heap[w.heap.size]? =Ft (.cells (us.toArray++Builtin.zeroCells z.cells (cap-need)) e (0,0)):=heap_alloc_new w.drew _;have dH:=gR _ _ hr;refine⟨p,_,e,hi,iD,rfl,?_,?_,by simp,?_,Wo,?_,by simp⟩
 .show cs.length<=cap*sz
  rw[<-dH,hl];exact yU _ hc
 .show 0+cap*sz<=_
  rw[Array.size_append,tr,size_zeroCells,hz,hl,<-xP];rw[yd];exact yU _ (by lia)
 .refine MR iD cs us 0 (ij hm (fun _ h=>h) aT _ _ hr) (fun j u hj=>?_);rw[yd,yax (by rw[tr];exact (xG.1 hj).1),List.getElem?_toArray]
  exact hj
 .intro _ hS
  have:=hh.slt _ hS
  simp[p] at this
def nT{a b:Nat}(h:yI a b=ydh):a<b:=yr h
def amV{o:yT}{b':yv}{t u e:yv}{by':Nat}{z:AV}{x y:xr}(hH:eX O H)(ht:bO O m S w tm a.tmps)(hh:aR O m S w hp cq)(dM:(execOp a.eval o).run O.P w=((do pure (.value (<-Builtin.append_ #[t,u] b' #[a.eval x,a.eval y])):Sem yaP)).run O.P w)(Ad:O.P.underlying t=Ft (.slice e))(hu:(∃e',O.P.underlying u=Ft (.slice e'))\/O.P.underlying u=Ft .string)(hs:bZ O.P e=Ft sz)(hb:zZ O.P e=Ft by')(hz:my O.P e=Ft z)(sL:(cellsOf z).length=sz)(hv:gC tm hp ct (.cQ sz by' (aK H x) (aK H y))=Ft (v,cX)):Tw O m S w a ct o v cX:=by
 simp only[gC] at hv;obtain⟨ti,zv,sO,rfl,rfl,Lq,rfl⟩:=abq hs hb hz;have aO:∀u' w',(Builtin.append_ #[t,u] b' #[a.eval x,a.eval y]).run O.P w=.ok u' w'->(execOp a.eval o).run O.P w=.ok (.value u') w':=fun u' w' h=>by
  rw[dM,Sem.run_bind,h];rfl
 have EV:zv.cells.size=ti.size:=by
  have:=gR _ _ (DA (ab:=O.ab) (m:=m) (S:=S) (w:=w) zv)
  rw[<-sL,<-this];simp
 cases lP:jh hp ti.size (ay tm (aK H y)) with
 | none=>simp[lP,zF] at hv
 | some q=>
  have⟨n,new⟩:=q;rw[lP] at hv;have⟨news,mK,dK⟩:=Zi hh (bQ hH ht y) lP;have Lr:=gR _ _ mK;have rx:=bQ hH ht x;cases hx:ay tm (aK H x)<;>rw[hx] at hv rx<;>simp only[zF,reduceCtorEq] at hv
  rename_i id o0 k;simp only[ae] at rx;have⟨p,c,hm,ex,h1,h2⟩:=rx
  split at hv
  case h_2=>cases hv
  rename_i cx pu zz cs hg
  cases hc:(ym zz ti.size&&(yI 0 n&&(yA (k+n) room&&(yA ((k+n)*ti.bytes) room&&(ym (o0+k*ti.size) cs.length&&yI 0 ti.size))))) with
  | false=>rw[hc] at hv;cases hv
  | true=>
   rw[hc] at hv;simp only[yq,yb,yj] at hv;obtain⟨rfl,rfl⟩:=hv;simp only[ye] at hc;have c0:=yf hc.1;have c5:=nT hc.2.1;have c1:=yr hc.2.2.1;have c2:=yr hc.2.2.2.1;have c3:=yf hc.2.2.2.2.1;have c4:=nT hc.2.2.2.2.2;simp only[room] at c1 c2;have⟨p',arr,t',g1,g2,g3,g4,g5,g6,g7,g8,g9,g10⟩:=hh.obj id _ _ hg hm;rw[hm] at g1;injection g1 with g1
   subst g1;subst c0;rw[g3] at h2;have hce:=g6 rfl;have fk:c=k:=by
    have:c*ti.size=k*ti.size:=by lia
    exact uR c4 this
   subst fk;have CX:bL O.ab m S w (slice o0 (c*ti.size) cs) p.b (p.o+o0):=Av _ _ _ _ (rO _ _ _ _ g7);have⟨mC,f1,f2,f3⟩:=zi _ _ _ CX;have OK:(slice o0 (c*ti.size) cs).length=c*ti.size:=by simp only[slice,yQ,wD];lia
   have ns:(pu&&aD new)=ydh->aD (slice o0 (c*ti.size) cs++new)=ydh:=fun h=>by
    simp only[ye] at h;exact DB (BJ _ (Aw _ _ (g8 h.1))) h.2
   have Ls:Src O.P w ti.size c mC (.slice (Ft ⟨p.b,p.o+o0,Fu⟩) c c):=FC (by lia) (fun j u hj=>by rw[nS];exact f3 j u hj)
   have hr:=Mn (P:=O.P) (ty:=b') (w:=w) Ad hu sO Lq rfl Ls dK (by lia) c1 c2;have kF:=grownCap_ge w (c+n) c e;have iD:=amU (ct:=ct) (e:=e) (z:=zv) (cap:=grownCap w (c+n) c e) hh (mi f1 mK) (need:=c+n) (sz:=ti.size) (by rw[yJ,f2,OK,dK.2.1,xP]) EV (pu&&aD new) ns kF;exact⟨_,_,⟨w.heap.size,0,grownCap w (c+n) c e*ti.size,ti.size⟩,aO _ _ (by rw[ex];exact hr),rfl,by simp[je],fun m' hle hi=>⟨iD m' hle hi,by simp only[ae];exact⟨_,_,hi,rfl,kF,by simp⟩⟩⟩
def ajY(hl:cJ hp Hq){q:Nat×List AV}(h:mM hp sz v=Ft q):mM Hq sz v=Ft q:=by
 cases v<;>simp only[mM,reduceCtorEq] at h ⊢
 .exact h
 .exact h
 .rename_i id o n
  cases hg:ai hp id with
  | none=>simp[hg] at h
  | some ob=>
   cases ob<;>simp only[hg,reduceCtorEq] at h
   obtain⟨o',h1,r,rfl,_⟩:=hl id _ hg;simp only[h1];exact h
def ak0(hl:cJ hp Hq){q:Nat×List AV}(h:jh hp sz v=Ft q):jh Hq sz v=Ft q:=by
 by_cases hs:∃b,v=.str b
 .obtain ⟨b,rfl⟩:=hs;exact h
 .have e:∀hp:Hp,jh hp sz v=mM hp sz v:=fun hp=>by
   cases v<;>first
    | rfl
    | exact absurd ⟨_,rfl⟩ hs
  rw[e] at h ⊢;exact ajY hl h
def amW(hl:cJ hp Hq){b:Nat}{x y:AV}(h:zF hp ct sz b x (jh hp sz y)=Ft (v,cX)):zF Hq ct sz b x (jh Hq sz y)=Ft (v,cX):=by
 cases hs:jh hp sz y with
 | none=>rw[hs] at h;simp[zF] at h
 | some q=>
  rw[ak0 hl hs];rw[hs] at h;have⟨n,new⟩:=q;cases x<;>simp only[zF,reduceCtorEq] at h ⊢
  rename_i id o k
  cases hg:ai hp id with
  | none=>simp[hg] at h
  | some ob=>
   cases ob with
   | cells cx pu ex z cs=>
    cases ex with
    | false=>simp[hg] at h
    | true=>
     obtain⟨o',h1,r,rfl,_⟩:=hl id _ hg;simp only[hg] at h;simp only[h1];exact h
   | _=>simp[hg] at h
def arJ{o:yT}{k:Nat}(hH:eX O H)(ht:bO O m S w tm a.tmps)(hh:aR O m S w hp cq)(hv:gC tm hp ct (aP O.P H k o)=Ft (v,cX)):Tw O m S w a ct o v cX:=by
 have iY:∀{r:AV×Obj},gC tm hp ct bad=Ft r->False:=fun h=>by simp[bad,gC] at h
 cases ho:o.op with
 | call c=>
  obtain⟨callee,args,ts⟩:=c;simp only[aP,ho] at hv
  split at hv
  .cases ET:H.mode k<;>simp[ET,gC] at hv
  .rename_i _ b
   split at hv
   .rename_i x y t u eA mJ;obtain⟨al⟩:=args;obtain⟨tl⟩:=ts;simp only at eA mJ;subst eA;subst mJ;obtain⟨cs,dM⟩:=At (O:=O) (w:=w) (a:=a) ho;have Ej:(execOp a.eval o).run O.P w=((do pure (.value (<-Builtin.append_ #[t,u] o.type #[a.eval x,a.eval y])):Sem yaP)).run O.P w:=by
     rw[dM];simp[builtin]
    have key:∀{z:AV} {sz by':Nat} {e:yv},O.P.underlying t=Ft (.slice e)->((∃e',O.P.underlying u=Ft (.slice e'))\/O.P.underlying u=Ft .string)->bZ O.P e=Ft sz->zZ O.P e=Ft by'->my O.P e=Ft z->
      gC tm hp ct (bif ym (cellsOf z).length sz then .cQ sz by' (aK H x) (aK H y) else bad)=Ft (v,cX)->Tw O m S w a ct o v cX:=by
     intro z sz by' e h1 h2 h3 h4 h5 h
     cases hb:ym (cellsOf z).length sz with
     | false=>rw[hb] at h;exact (iY h).elim
     | true=>
      rw[hb] at h;exact amV hH ht hh Ej h1 h2 h3 h4 h5 (yf hb) h
    split at hv
    .rename_i e e' h1 h2
     split at hv
     .rename_i sz by' z h3 h4 h5
      exact key h1 (.inl ⟨_,h2⟩) h3 h4 h5 hv
     .exact (iY hv).elim
    .rename_i e h1 h2
     split at hv
     .rename_i sz by' z h3 h4 h5
      exact key h1 (.inr h2) h3 h4 h5 hv
     .exact (iY hv).elim
    .exact (iY hv).elim
   .repeat' split at hv
    all_goals simp[gC,bad] at hv
   .repeat' split at hv
    all_goals simp[gC,bad] at hv
   .simp [gC] at hv
   .simp [gC] at hv
   .simp [gC] at hv
   .simp [gC] at hv
   .simp [gC] at hv
   .exact (iY hv).elim
  .exact (iY hv).elim
 | next x b=>
  cases b<;>simp[aP,ho,gC,bad] at hv
 | binOp op t x y ty=>
  cases op<;>simp only[aP,ho,nR,oU] at hv
  case eql=>
        repeat' split at hv
        all_goals first
         | (simp[gC,bad] at hv;done)
         | (cases hb:(O.P.stoodInHeld t||O.P.eqGuardType O.P.depth t)<;>rw[hb] at hv<;>simp[gC,bad] at hv)
  case neq=>
        repeat' split at hv
        all_goals first
         | (simp[gC,bad] at hv;done)
         | (cases hb:(O.P.stoodInHeld t||O.P.eqGuardType O.P.depth t)<;>rw[hb] at hv<;>simp[gC,bad] at hv)
  all_goals simp[gC] at hv
 | buildSlice t n parts=>
  simp only[aP,ho] at hv
  repeat' split at hv
  all_goals first
   | (simp[gC,bad] at hv;done)
   | (
     revert hv;generalize yA _ _=bb;intro hv;cases bb<;>simp[gC,bad] at hv
     try (split at hv<;>simp[gC,bad] at hv))
 | makeMap t r=>
  cases r<;>simp only[aP,ho] at hv
  .repeat' split at hv
   all_goals simp[gC,bad] at hv
  .exact (iY hv).elim
 | _=>
  simp only[aP,ho] at hv
  (repeat' split at hv)
  all_goals first
   | contradiction
   | (simp[gC,bad] at hv;done)
end
end
end
section
open Go
section
variable {aY:Hp}{cap first aq z:List AV}{g k n sz:Nat}{P:xm}
section
variable {O:bl}{H:Hint}{m:Mp}{S:Nat->Prop}{w:yi}{tm:Env}{a:Act}{hp an Hq:Hp}{ct aH cH:Nat}{self:cd}{ro:Option Nat}{next:Act->yi->Prop}{Q:uC->Act->yi->Prop}
def Zp{g:yar}{p:Pl}{S':Nat->Prop}{base:Nat}(hh:aR O m S w Hq cH)(hi:m ct=Fu)(hb:p.b=w.heap.size)(h1:∀b,S b->S' b)(h2:∀b,S' b->S b\/b=w.heap.size):
  bU m S w Hq (fy m ct p) S' (w.alloc g) Hq base where
 os:=rfl
 tape:=rfl
 output:=rfl
 size:=by simp
 same b hb _:=alloc_old hb
 sub:=h1
 still b hb:=alloc_old (hh.slt b hb)
 new b hb:=(h2 b hb).imp (fun h=>h) (fun h=>.inr (by lia))
 own b hb:=by
  have⟨i,o,q,g1,g2,g3⟩:=hb;by_cases hc:i=ct
  .subst hc;rw[du] at g2
   grind
  .rw [dY hc] at g2;exact .inl ⟨i,o,q,g1,g2,g3⟩
 old i q _ h:=jD hi i q h
 loops b r hb:=⟨r,(alloc_old (xt.1 hb).1).trans hb⟩
def X8{Oh:List AV}{us:List yg}(hz:cu deep hp Oh=Ft (aq,aY))(hl:cJ aY Hq)(hh:aR O m S w Hq cH)(hr:az O.ab m S w Oh us):az O.ab eR S w aq us/\aD aq=ydh:=by
 have⟨_,_,h3⟩:=Rh (O:=O) hz;have⟨k1,k2⟩:=h3 Hq m S w cH hl hh;exact⟨Ay (fun _ h=>h) (fun _ _=>rfl) _ _ k2 (k1 us hr),k2⟩
def S3(hh:aR O m S w Hq cH):Cn O w:=⟨hh.mB,hh.fY⟩
def Na(hH:eX O H)(ht:bO O m S w tm a.tmps){f:xr}{args:Array xr}(hf:ay tm (aK H f)=.fn (.f g) first cap):
  ∃fi ca:Array yg,a.eval f=.func (.func (O.ab g)) fi ca/\az O.ab m S w (first++(dA tm (iC H args.toList)++cap)) (fi++args.map a.eval++ca).toList:=by
 have rf:=bQ hH ht f;rw[hf] at rf;have⟨fi,ca,h1,h2,h3⟩:=rf;refine⟨fi,ca,h1,?_⟩
 have:=mi h2 (mi (DT hH ht args.toList) h3)
 simp_all
def ajZ(hC:oV O self)(hH:eX O H){o:yT}{c:yaf}{f:xr}(ho:o.op=.call c)(jx:c.callee=.value f){r:AV}(hf:ay tm (aK H f)=.fn (.f g) first cap)(hz:cu deep hp (first++(dA tm (iC H c.args.toList)++cap))=Ft (aq,aY))(hr:bT O.prog O.aI self g aq=Ft r)(hl:cJ aY Hq)(ht:bO O m S w tm a.tmps)(hh:aR O m S w Hq cH)(hn:∀u S' w',aR O m S' w' Hq cH->ae O.ab m S' w' (shut r) u->bU m S w Hq m S' w' Hq cH->next (a.put o.dst u) w'):o.wpIn (WF ro) 0 O.P a w next Q:=by
 have⟨fi,ca,h1,h2⟩:=Na hH ht (args:=c.args) hf;have⟨h3,h4⟩:=X8 hz hl hh h2;refine MD ho jx h1 (hC.pure g aq r hr w S _ (S3 hh) hh.slt h3 h4) ?_;rintro e w' ⟨u,S',rfl,hw,g1,g2,g3,g4⟩;refine⟨u,rfl,?_⟩;have⟨S2,k1,k2,k3⟩:=Zl g4 m;have hS:∀b,S b->S2 b:=fun b hb=>k1 b (g1 b hb)
 have CZ:∀b,S2 b->S b\/w.heap.size<=b:=fun b hb=>(k2 b hb).elim (g2 b) (fun h=>.inr h.1)
 have hl:∀b,S2 b->b<w'.heap.size:=fun b hb=>(k2 b hb).elim (g3 b) (fun h=>h.2)
 exact hn u S2 w' (BQ hh hw hS CZ hl) k3 (AD hh hw hS CZ)
def ak1(hC:oV O self)(hH:eX O H){o:yT}{c:yaf}{f:xr}(ho:o.op=.call c)(jx:c.callee=.value f){r:AV}(hf:ay tm (aK H f)=.fn (.f g) first cap)(hz:cu deep hp (first++(dA tm (iC H c.args.toList)++cap))=Ft (aq,aY))(hr:bT O.prog O.aI self g aq=Ft r)(hl:cJ (own aY ct r).2.1 Hq)(gJ:(own aY ct r).2.2<=cH)(aM:∀id o,ai hp id=Ft o->id<ct)(rm:∀id,ct<=id->id<(own aY ct r).2.2->m id=Fu)(ht:bO O m S w tm a.tmps)(hh:aR O m S w Hq cH)(hn:∀u m' S' w',aR O m' S' w' Hq cH->cY m m'->(∀id p,m' id=Ft p->m id=Ft p\/(ct<=id/\id<(own aY ct r).2.2))->ae O.ab m' S' w' (own aY ct r).1 u->bU m S w Hq m' S' w' Hq cH->next (a.put o.dst u) w'):
  o.wpIn (WF ro) 0 O.P a w next Q:=by
 have⟨fi,ca,h1,h2⟩:=Na hH ht (args:=c.args) hf;have⟨z1,z2,z3⟩:=Rh (O:=O) hz;have UR:∀id o,ai aY id=Ft o->id<ct:=fun id o h=>by
  have:=z2 id
  rw[h] at this
  cases hq:ai hp id with
  | none=>rw[hq] at this;cases this
  | some q=>exact aM id q hq
 have arK:∀id o,ai aY id=Ft o->ai (own aY ct r).2.1 id=Ft o:=fun id o h=>by
  cases r with
  | ax vs=>exact NA UR id o h
  | _=>exact SZ UR id o h
 have pO:cJ aY Hq:=fun id o h=>hl id o (arK id o h)
 have⟨h3,h4⟩:=X8 hz pO hh h2;refine MD ho jx h1 (hC.pure g aq r hr w S _ (S3 hh) hh.slt h3 h4) ?_;rintro e w' ⟨u,S',rfl,hw,g1,g2,g3,g4⟩;refine⟨u,rfl,?_⟩;have C0:=BQ hh hw g1 g2 g3;have nt:=AD (base:=cH) hh hw g1 g2;have⟨m',S2,k1,k2,k3,k4,k5,k6⟩:=arI (lo:=w.heap.size) C0 hl gJ UR rm g4 hh.fY (fun j q hq=>hh.blt j q hq);refine hn u m' S2 w' k1 k2 (fun id p h=>(k3 id p h).imp (fun h=>h) (fun h=>⟨h.1,h.2.1⟩)) k4 ⟨hw.os,hw.tape,hw.output,hw.size,fun b hb _=>hw.same b hb,fun b hb=>k5 b (g1 b hb),fun b hb=>hw.same b (hh.slt b hb),?_,?_,fun i q _ h=>k2 i q h,nt.loops⟩
 .grind
 .rintro b ⟨i,ob,q,q1,q2,q3⟩;rcases k3 i q q2 with h | h
  .exact .inl ⟨i,ob,q,q1,h,q3⟩
  .grind
def aj0{H:Hint}{o:yT}{b:Nat}{x y:X}(hk:Op.q9 sz b x y=aP P H k o):False:=by
 cases ho:o.op with
 | call c=>
  have⟨callee,args,ts⟩:=c;simp only[aP,ho] at hk
  split at hk
  .rename_i f;cases hm:H.mode k<;>simp only[hm,reduceCtorEq] at hk
  .repeat' split at hk
   all_goals first
    | (cases hk;done)
    | (simp only[bad] at hk;cases hk;done)
    | (revert hk;generalize ym _ _=bb;intro hk;cases bb<;>simp[bad] at hk)
  .simp only [bad] at hk;cases hk
 | binOp op t x' y ty=>
  cases op<;>simp only[aP,ho,nR,oU] at hk
  case eql=>
        repeat' split at hk
        all_goals first
         | (cases hk;done)
         | (simp only[bad] at hk;cases hk;done)
         | (cases bH:(P.stoodInHeld t||P.eqGuardType P.depth t)<;>rw[bH] at hk<;>simp[bad] at hk)
  case neq=>
        repeat' split at hk
        all_goals first
         | (cases hk;done)
         | (simp only[bad] at hk;cases hk;done)
         | (cases bH:(P.stoodInHeld t||P.eqGuardType P.depth t)<;>rw[bH] at hk<;>simp[bad] at hk)
  all_goals cases hk
 | buildSlice t n parts=>
  simp only[aP,ho] at hk
  repeat' split at hk
  all_goals first
   | (cases hk;done)
   | (simp only[bad] at hk;cases hk;done)
   | (revert hk;generalize yA _ _=bb;intro hk;cases bb<;>simp[bad] at hk)
 | makeMap t r=>
  cases r<;>simp only[aP,ho] at hk
  .repeat' split at hk
   all_goals first
    | (cases hk;done)
    | (simp only[bad] at hk;cases hk;done)
  .simp only [bad] at hk;cases hk
 | next x' b=>
  cases b<;>simp only[aP,ho] at hk
  .simp only [bad] at hk;cases hk
  .cases hk
 | _=>
  simp only[aP,ho] at hk
  (repeat' split at hk)
  all_goals first
   | contradiction
   | (cases hk;done)
   | (simp only[bad] at hk;cases hk;done)
def arL{H:Hint}{o:yT}{b:Nat}{x y:X}(hq:oc P H (.q9 sz b x y) o):∃k,Op.cQ sz b x y=aP P H k o:=by
 rcases hq with ⟨k,hk⟩ | ⟨_,_,_,_,_,h3⟩ | ⟨_,_,_,_,_,_,_,h3⟩ | ⟨_,_,_,_,_,_,_,h3⟩ | ⟨k,nv,b',x',y',h1,h3⟩ | ⟨_,_,_,_,_,_,h3⟩
 .exact (aj0 hk).elim
 .cases h3
 .cases h3
 .cases h3
 .simp only [Op.q9.injEq] at h3;obtain⟨rfl,rfl,rfl,rfl⟩:=h3;exact⟨k,h1⟩
 .cases h3
def aj1{H:Hint}{o:yT}{ps:List (Nat×Nat×X)}(hk:Op.pL n sz z ps=aP P H k o):False:=by
 cases ho:o.op with
 | call c=>
  obtain⟨callee,args,ts⟩:=c;simp only[aP,ho] at hk
  split at hk
  .rename_i f;cases hm:H.mode k<;>simp only[hm,reduceCtorEq] at hk
  .repeat' split at hk
   all_goals first
    | (cases hk;done)
    | (simp only[bad] at hk;cases hk;done)
    | (revert hk;generalize ym _ _=bb;intro hk;cases bb<;>simp[bad] at hk)
  .simp only [bad] at hk;cases hk
 | binOp op t x' y ty=>
  cases op<;>simp only[aP,ho,nR,oU] at hk
  case eql=>
        repeat' split at hk
        all_goals first
         | (cases hk;done)
         | (simp only[bad] at hk;cases hk;done)
         | (cases bH:(P.stoodInHeld t||P.eqGuardType P.depth t)<;>rw[bH] at hk<;>simp[bad] at hk)
  case neq=>
        repeat' split at hk
        all_goals first
         | (cases hk;done)
         | (simp only[bad] at hk;cases hk;done)
         | (cases bH:(P.stoodInHeld t||P.eqGuardType P.depth t)<;>rw[bH] at hk<;>simp[bad] at hk)
  all_goals cases hk
 | buildSlice t n parts=>
  simp only[aP,ho] at hk
  repeat' split at hk
  all_goals first
   | (cases hk;done)
   | (simp only[bad] at hk;cases hk;done)
   | (revert hk;generalize yA _ _=bb;intro hk;cases bb<;>simp[bad] at hk)
 | makeMap t r=>
  cases r<;>simp only[aP,ho] at hk
  .repeat' split at hk
   all_goals first
    | (cases hk;done)
    | (simp only[bad] at hk;cases hk;done)
  .simp only [bad] at hk;cases hk
 | next x' b=>
  cases b<;>simp only[aP,ho] at hk
  .simp only [bad] at hk;cases hk
  .cases hk
 | _=>
  simp only[aP,ho] at hk
  (repeat' split at hk)
  all_goals first
   | contradiction
   | (cases hk;done)
   | (simp only[bad] at hk;cases hk;done)
def arM{H:Hint}{o:yT}{ps:List (Nat×Nat×X)}(hq:oc P H (.pL n sz z ps) o):∃k,Op.iB n sz z ps=aP P H k o:=by
 rcases hq with ⟨k,hk⟩ | ⟨_,_,_,_,_,h3⟩ | ⟨_,_,_,_,_,_,_,h3⟩ | ⟨_,_,_,_,_,_,_,h3⟩ | ⟨_,_,_,_,_,_,h3⟩ | ⟨k,n',nv,z',ps',h1,h3⟩
 .exact (aj1 hk).elim
 .cases h3
 .cases h3
 .cases h3
 .cases h3
 .simp only [Op.pL.injEq] at h3;obtain⟨rfl,rfl,rfl,rfl⟩:=h3;exact⟨k,h1⟩
def arN(hH:eX O H)(ht:bO O m S w tm a.tmps)(hh:aR O m S w hp ct){o:yT}{ps:List (Nat×Nat×X)}{v:AV}{hp0:Hp}(gZ:Op.iB n sz z ps=aP O.P H k o)(hv:bf tm hp0 (.pL n sz z ps)=Ft v):
  ∃u g,(execOp a.eval o).run O.P w=.ok (.value u) (w.alloc g)/\∀S':Nat->Prop,(∀b,S b->S' b)->S' w.heap.size->ae O.ab m S' (w.alloc g) v u:=by
 simp only[bf] at hv
 cases hf:fill tm z ps with
 | none=>simp[hf] at hv
 | some cs=>
  simp only[hf] at hv
  cases hc:(ym cs.length (n*sz)&&(yI 0 sz&&aD cs)) with
  | false=>rw[hc] at hv;cases hv
  | true=>
   rw[hc] at hv;simp only[yq,yb] at hv;subst hv;simp only[ye] at hc;obtain⟨c1,c2,c3⟩:=hc;have c1':=yf c1;have c2':=qt.1 c2;have hi:m ct=Fu:=by
    cases hm:m ct with
    | none=>rfl
    | some p=>have:=hh.lt ct p hm;omega
   have bV:cB tm hp ct (aP O.P H k o)=Ft (.ap ct 0 n,.cells ydh ydh ydh sz cs):=by
    rw[<-gZ];simp only[cB,hf,c1,yq,c3]
   obtain⟨u,g,p,h1,h2,h3,h4⟩:=abo hH ht hh bV;refine⟨u,g,h1,fun S' hS hSn=>?_⟩;obtain⟨ho,hr⟩:=h4 (fy m ct p) (jD hi) du;simp only[eY] at ho;obtain⟨q,arr,t,g1,g2,g3,g4,g5,g6,g7,g8,_⟩:=ho;rw[du] at g1;injection g1 with g1
   subst g1;simp only[ae,du,yb] at hr;obtain⟨q,c,rfl,rfl,r3,r4⟩:=hr;simp only[ae];refine .inl ⟨_,_,c,rfl,r3,fun _=>?_,.inr (by rw[h2];exact hSn),c3,?_⟩
   .have e:=g6 trivial;rw[<-e,c1',g3,yd] at r4;exact uR c2' r4
   .rw [yW];exact BK hS (fun _ _=>rfl) cs _ _ c3 rfl g7
def quiet_step(hC:oV O self)(hH:eX O H){o:yT}{q:Op}{v:AV}(hk:bg q<=1)(hq:oc O.P H q o)(hd:∀c,o.op≠.defer c)(hv:aX O.prog O.aI self tm hp ct q=Ft (v,an,aH))(hl:cJ an Hq)(gJ:aH<=cH)(aM:∀id o,ai hp id=Ft o->id<ct)(rm:∀id,ct<=id->id<aH->m id=Fu)(ht:bO O m S w tm a.tmps)(hh:aR O m S w Hq cH)(hn:∀u m' S' w',aR O m' S' w' Hq cH->cY m m'->(∀id p,m' id=Ft p->m id=Ft p\/(ct<=id/\id<aH))->ae O.ab m' S' w' v u->bU m S w Hq m' S' w' Hq cH->next (a.put o.dst u) w'):
  o.wpIn (WF ro) 0 O.P a w next Q:=by
 by_cases oD:∃sz b x y,q=.q9 sz b x y
 .obtain ⟨sz,b,x,y,rfl⟩:=oD;obtain⟨k,gZ⟩:=arL hq;simp only[aX] at hv
  cases hm:zF hp ct sz b (ay tm x) (jh hp sz (ay tm y)) with
  | none=>simp[hm] at hv
  | some r=>
   obtain⟨v1,cX⟩:=r;simp only[hm,yb,yj] at hv;obtain⟨rfl,rfl,rfl⟩:=hv;have kV:cJ hp Hq:=fun id o' jv=>hl id o' (by
    rw[fo,yz (by have:=aM id o' jv;omega)];exact jv)
   have bA:gC tm Hq ct (aP O.P H k o)=Ft (v1,cX):=by rw[<-gZ];exact amW kV hm
   have hi:=rm ct (yu _) (yam _);obtain⟨u,g,p,h1,h2,h3,h4⟩:=arJ hH ht hh bA;have Lt:Calm w w.drew:=⟨rfl,rfl,rfl,yu _,fun _ _=>rfl⟩;have iL:=BQ hh Lt (S':=S) (fun _ h=>h) (fun _ h=>.inl h) hh.slt;have kG:bU m S w Hq m S w.drew Hq cH:=AD hh Lt (fun _ h=>h) (fun _ h=>.inl h);obtain⟨S',k1,k2,k3⟩:=Sg (i:=ct) (g:=g) (p:=p) iL hi gJ h2 (fun o' jv=>by
    obtain⟨Wj,g1,g2⟩:=hl ct cX (by rw[fo];simp)
    rw[jv] at g1;injection g1 with g1
    subst g1
    have:=Q5 g2 du (h4 _ (jD hi) du).1 h3
    rwa[h2] at this)
   refine F1 hd h1 (.inl rfl) (hn u _ S' _ k1 (jD hi) (fun id q hq=>?_) (mo (fun _ _ h=>h) k2 (fun _ _=>rfl) _ _ (h4 _ (jD hi) du).2) (kG.trans (Zp iL hi h2 k2 k3)));by_cases hc:id=ct
   .exact .inr (by omega)
   .rw [dY hc] at hq;exact .inl hq
 by_cases C1:∃n sz z ps,q=.pL n sz z ps
 .obtain ⟨n,sz,z,ps,rfl⟩:=C1;obtain⟨k,gZ⟩:=arM hq;simp only[aX] at hv
  cases hm:bf tm hp (.pL n sz z ps) with
  | none=>simp[hm] at hv
  | some r=>
   simp only[hm,yb,yj] at hv;obtain⟨rfl,rfl,rfl⟩:=hv;obtain⟨u,g,h1,h2⟩:=arN hH ht hh gZ hm;have Lt:Calm w (w.alloc g):=⟨rfl,rfl,rfl,by simp,fun b hb=>alloc_old hb⟩
   let S':Nat->Prop:=fun b=>S b\/b=w.heap.size
   have hS:∀b,S b->S' b:=fun b hb=>.inl hb
   have CZ:∀b,S' b->S b\/w.heap.size<=b:=fun b hb=>hb.imp id (fun e=>by omega)
   have Bx:∀b,S' b->b<(w.alloc g).heap.size:=fun b hb=>by
    rcases hb with hb | hb
    .have:=hh.slt b hb;simp;omega
    .subst hb;simp
   refine F1 hd h1 (.inl rfl) (hn u m S' _ (BQ hh Lt hS CZ Bx) cY.refl (fun _ _ h=>.inl h) (h2 S' hS (.inr rfl)) (AD hh Lt hS CZ))
 have gZ:∃k,q=aP O.P H k o:=by
  rcases hq with h | ⟨c,f,rs,_,_,rfl⟩ | ⟨_,_,_,_,_,_,_,rfl⟩ | ⟨_,_,_,_,_,_,_,rfl⟩ | ⟨_,_,_,_,_,_,h⟩ | ⟨_,_,_,_,_,_,h⟩
  .exact h
  .simp [bg] at hk
  .simp [bg] at hk
  .simp [bg] at hk
  .exact (oD ⟨_,_,_,_,h⟩).elim
  .exact (C1 ⟨_,_,_,_,h⟩).elim
 obtain⟨k,hq⟩:=gZ;have read:∀{v:AV},bf tm hp q=Ft v->cJ hp Hq->(∀u m' S' w',aR O m' S' w' Hq cH->cY m m'->(∀id p,m' id=Ft p->m id=Ft p\/(ct<=id/\id<aH))->ae O.ab m' S' w' v u->bU m S w Hq m' S' w' Hq cH->next (a.put o.dst u) w')->o.wpIn (WF ro) 0 O.P a w next Q:=by
  intro v hr hl hn;have bA:=akU hl hr;rw[hq] at bA;obtain⟨u,h1,h2⟩:=abm hH ht hh bA;exact F1 hd h1 (.inl rfl) (hn u m S w hh cY.refl (fun _ _ h=>.inl h) h2 bU.refl)
 have makes:∀{v:AV} {b:Obj},cB tm hp ct q=Ft (v,b)->cJ ((ct,b)::hp) Hq->ct+1<=cH->m ct=Fu->(∀u m' S' w',aR O m' S' w' Hq cH->cY m m'->(∀id p,m' id=Ft p->m id=Ft p\/(ct<=id/\id<ct+1))->ae O.ab m' S' w' v u->bU m S w Hq m' S' w' Hq cH->next (a.put o.dst u) w')->o.wpIn (WF ro) 0 O.P a w next Q:=by
  intro v b hr hl hc hi hn;rw[hq] at hr;have bA:cB tm Hq ct (aP O.P H k o)=Ft (v,b):=by rw[<-hr];exact II (fun _ _=>rfl)
  obtain⟨u,g,p,h1,h2,h3,h4⟩:=abo hH ht hh bA;obtain⟨S',k1,k2,k3⟩:=Sg (i:=ct) (g:=g) (p:=p) hh hi hc h2 (fun o' jv=>by
   obtain⟨Wj,g1,g2⟩:=hl ct b (by rw[fo];simp)
   rw[jv] at g1;injection g1 with g1
   subst g1
   have:=Q5 g2 du (h4 _ (jD hi) du).1 h3
   rwa[h2] at this)
  refine F1 hd h1 (.inl rfl) (hn u _ S' _ k1 (jD hi) (fun id q hq=>?_) (mo (fun _ _ h=>h) k2 (fun _ _=>rfl) _ _ (h4 _ (jD hi) du).2) (Zp hh hi h2 k2 k3));by_cases hc:id=ct
  .exact .inr (by omega)
  .rw [dY hc] at hq;exact .inl hq
 have bV:∀{q:Op},(match cB tm hp ct q with | some (v,b)=>Ft (v,(ct,b)::hp,ct+1) | none=>(Fu:gY))=Ft (v,an,aH)->∃b,cB tm hp ct q=Ft (v,b)/\an=(ct,b)::hp/\aH=ct+1:=by
  intro q h
  cases hm:cB tm hp ct q with
  | none=>simp[hm] at h
  | some r=>
   obtain⟨v1,b⟩:=r;simp only[hm,yb,yj] at h;obtain⟨rfl,rfl,rfl⟩:=h;exact⟨b,rfl,rfl,rfl⟩
 have fS:∀{q:Op},(match bf tm hp q with | some v=>Ft (v,hp,ct) | none=>(Fu:gY))=Ft (v,an,aH)->bf tm hp q=Ft v/\an=hp/\aH=ct:=by
  intro q h
  cases hm:bf tm hp q with
  | none=>simp[hm] at h
  | some r=>
   simp only[hm,yb,yj] at h;obtain⟨rfl,rfl,rfl⟩:=h;exact⟨rfl,rfl,rfl⟩
 have Jn:(∃b,cB tm hp ct q=Ft (v,b)/\an=(ct,b)::hp/\aH=ct+1)->o.wpIn (WF ro) 0 O.P a w next Q:=by
  rintro⟨b,h1,rfl,rfl⟩;exact makes h1 hl gJ (rm ct (yu _) (yam _)) hn
 have arO:(bf tm hp q=Ft v/\an=hp/\aH=ct)->o.wpIn (WF ro) 0 O.P a w next Q:=by
  rintro⟨h1,rfl,rfl⟩;exact read h1 hl hn
 cases q with
 | st _ _ _=>simp[bg] at hk
 | qY _ _ _ _=>simp[bg] at hk
 | q8 _=>simp[bg] at hk
 | cQ _ _ _ _=>simp[bg] at hk
 | rb _ _ _=>simp[bg] at hk
 | jF _ _ _=>simp[bg] at hk
 | kS _ _ _ _=>simp[bg] at hk
 | lV _ _ _ _ _=>simp[bg] at hk
 | q9 sz b x y=>exact (oD ⟨sz,b,x,y,rfl⟩).elim
 | box s x=>exact Jn (bV (by simp only[aX] at hv;exact hv))
 | iB n s z ps=>exact Jn (bV (by simp only[aX] at hv;exact hv))
 | mH s b z x y=>exact Jn (bV (by simp only[aX] at hv;exact hv))
 | Bo=>exact Jn (bV (by simp only[aX] at hv;exact hv))
 | qZ x=>exact Jn (bV (by simp only[aX] at hv;exact hv))
 | call md x xs=>
  cases md with
  | heap=>simp[bg] at hk
  | dyn=>simp[bg] at hk
  | pure=>
   simp only[aX,er] at hv
   split at hv
   .rename_i g first cap hx
    (try simp only at hv)
    cases hz:cu deep hp (first++(dA tm xs++cap)) with
    | none=>simp[hz] at hv
    | some z=>
     obtain⟨aq,aY⟩:=z;simp only[hz] at hv
     cases hr:bT O.prog O.aI self g aq with
     | none=>simp[hr] at hv
     | some r=>
      simp only[hr,yb,yj] at hv;obtain⟨rfl,rfl,rfl⟩:=hv;obtain⟨c,f,ho,jx,rfl,rfl⟩:=NB hq.symm (by rintro rfl;simp[ay] at hx);exact ajZ hC hH ho jx hx hz hr hl ht hh (fun u S' w' h1 h2 h3=>hn u m S' w' h1 cY.refl (fun _ _ h=>.inl h) h2 h3)
   .simp at hv
   .cases hv
  | own=>
   simp only[aX,er] at hv
   split at hv
   .rename_i g first cap hx
    (try simp only at hv)
    cases hz:cu deep hp (first++(dA tm xs++cap)) with
    | none=>simp[hz] at hv
    | some z=>
     obtain⟨aq,aY⟩:=z;simp only[hz] at hv
     cases hr:bT O.prog O.aI self g aq with
     | none=>simp[hr] at hv
     | some r=>
      simp only[hr,yb] at hv;obtain⟨c,f,ho,jx,rfl,rfl⟩:=NB hq.symm (by rintro rfl;simp[ay] at hx);have e1:v=(own aY ct r).1:=by rw[hv]
      have e2:an=(own aY ct r).2.1:=by rw[hv]
      have e3:aH=(own aY ct r).2.2:=by rw[hv]
      subst e1;subst e2;subst e3;exact ak1 hC hH ho jx hx hz hr hl gJ aM rm ht hh hn
   .simp at hv
   .cases hv
 | _=>exact arO (fS (by simp only[aX] at hv;exact hv))
end
end
end
section
open Go
section
variable {r v:AV}{b sz:Nat}{q:Op}{P:xm}{x y:X}
section
variable {O:bl}{H:Hint}{m:Mp}{S:Nat->Prop}{w:yi}{tm:Env}{a:Act}{hp an:Hp}{ct aH:Nat}{self:cd}{ro:Option Nat}{next:Act->yi->Prop}{Q:uC->Act->yi->Prop}
def bU.zO{m':Mp}{S':Nat->Prop}{w':yi}{b':Nat}(h:bU m S w hp m' S' w' an b)(hb:b'<=b):bU m S w hp m' S' w' an b':=
 ⟨h.os,h.tape,h.output,h.size,h.same,h.sub,h.still,h.new,h.own,fun i q hi hq=>h.old i q (by lia) hq,h.loops⟩
def arP{hp:Hp}{ct:Nat}(aM:∀id o,ai hp id=Ft o->id<ct):∀id o,ai (own hp ct r).2.1 id=Ft o->id<(own hp ct r).2.2:=by
 have hL:∀(vs:List AV) (hp:Hp) (ct:Nat),(∀id o,ai hp id=Ft o->id<ct)->∀id o,ai (kB hp ct vs).2.1 id=Ft o->id<(kB hp ct vs).2.2:=by
  intro vs
  induction vs with
  | nil=>intro hp ct h id o ho;exact h id o ho
  | cons v r ih=>intro hp ct h id o ho;exact ih _ _ (Jb h) id o ho
 cases r with
 | ax vs=>exact hL vs hp ct aM
 | _=>exact Jb aM
def arQ{hp:Hp}{ct:Nat}(aM:∀id o,ai hp id=Ft o->id<ct):∀id o,ai hp id=Ft o->ai (own hp ct r).2.1 id=Ft o:=by
 cases r with
 | ax vs=>exact NA aM
 | _=>exact SZ aM
def arR{hp:Hp}{ct:Nat}:ct<=(own hp ct r).2.2:=by
 cases r with
 | ax vs=>exact Nz
 | _=>exact Ny
def amX{hp:Hp}{ct:Nat}:∀id o,ai (own hp ct r).2.1 id=Ft o->id<ct->ai hp id=Ft o:=by
 have h1:∀(hp:Hp) (ct:Nat) (r:AV) id o,ai (fw hp ct r).2.1 id=Ft o->id<ct->ai hp id=Ft o:=by
  intro hp ct r id o h hc;cases r<;>simp only[fw] at h<;>try exact h
  rw[fo,yz (by lia)] at h;exact h
 have hL:∀(vs:List AV) (hp:Hp) (ct:Nat) id o,ai (kB hp ct vs).2.1 id=Ft o->id<ct->ai hp id=Ft o:=by
  intro vs
  induction vs with
  | nil=>intro hp ct id o ho _;exact ho
  | cons v r ih=>intro hp ct id o ho hc;exact h1 hp ct v id o (ih _ _ id o ho (by have:=Ny (hp:=hp) (ct:=ct) (r:=v);lia)) hc
 cases r with
 | ax vs=>exact hL vs hp ct
 | _=>exact h1 hp ct _
structure jj(hp:Hp)(ct:Nat)(an:Hp)(aH:Nat):Prop where
 le:cJ hp an
 rq:ct<=aH
 lt:∀id o,ai an id=Ft o->id<aH
 back:∀id o,ai an id=Ft o->id<ct->∃o',ai hp id=Ft o'
def jj.refl(aM:∀id o,ai hp id=Ft o->id<ct):jj hp ct hp ct:=⟨cJ.refl,yu _,aM,fun _ o h _=>⟨o,h⟩⟩
def jj.trans{Km:Hp}{aeO:Nat}(h:jj hp ct an aH)(k:jj an aH Km aeO):jj hp ct Km aeO:=
 ⟨h.le.trans k.le,xo h.rq k.rq,k.lt,fun id o ho hi=>let ⟨o1,h1⟩:=k.back id o ho (yE hi h.rq);h.back id o1 h1 hi⟩
def Zq{Oh aq:List AV}{aY:Hp}(hz:cu deep hp Oh=Ft (aq,aY))(aM:∀id o,ai hp id=Ft o->id<ct):jj hp ct aY ct:=by
 have⟨z1,z2,_⟩:=Rh (O:=⟨default,⟨fun _=>Fu,fun _=>Fu⟩,fun _=>0,fun _=>Fu,fun _=>⟨0,fun _=>Fu,fun _=>[],fun _=>Fu,fun _=>.pure,fun _=>[]⟩,default⟩) hz;have hb:∀id o,ai aY id=Ft o->∃o',ai hp id=Ft o':=fun id o h=>by
  have:=z2 id
  rw[h] at this
  cases hq:ai hp id with
  | none=>rw[hq] at this;cases this
  | some q=>exact⟨q,rfl⟩
 exact⟨z1,yu _,fun id o h=>let ⟨o',h'⟩:=hb id o h;aM id o' h',fun id o h _=>hb id o h⟩
def ak2(aM:∀id o,ai hp id=Ft o->id<ct):jj hp ct (own hp ct r).2.1 (own hp ct r).2.2:=
 ⟨fun id o h=>⟨o,arQ aM id o h,jw.refl o⟩,arR,arP aM,fun id o h hi=>⟨o,amX id o h hi⟩⟩
def X9{P:aF}{L:Lib}(hk:bg q<=1)(hv:aX P L self tm hp ct q=Ft (v,an,aH))(aM:∀id o,ai hp id=Ft o->id<ct):jj hp ct an aH:=by
 have bV:∀{q:Op},(match cB tm hp ct q with | some (v,b)=>Ft (v,(ct,b)::hp,ct+1) | none=>(Fu:gY))=Ft (v,an,aH)->jj hp ct an aH:=by
  intro q h
  cases hm:cB tm hp ct q with
  | none=>simp[hm] at h
  | some r=>
   have⟨v1,b⟩:=r;simp only[hm,yb,yj] at h;obtain⟨rfl,rfl,rfl⟩:=h;refine⟨fun id o ho=>⟨o,?_,jw.refl o⟩,by lia,fun id o ho=>?_,fun id o ho hi=>?_⟩
   .rw [fo,yz (by have:=aM id o ho;lia)];exact ho
   .rw [fo] at ho;by_cases hc:ct=id
    .lia
    .simp only [hc,xy] at ho;have:=aM id o ho;lia
   .rw [fo,yz (by lia)] at ho;exact⟨o,ho⟩
 have fS:∀{q:Op},(match bf tm hp q with | some v=>Ft (v,hp,ct) | none=>(Fu:gY))=Ft (v,an,aH)->jj hp ct an aH:=by
  intro q h
  cases hm:bf tm hp q with
  | none=>simp[hm] at h
  | some r=>
   simp only[hm,yb,yj] at h;obtain⟨rfl,rfl,rfl⟩:=h;exact jj.refl aM
 cases bG:q with
 | st _ _ _=>simp[bG,bg] at hk
 | qY _ _ _ _=>simp[bG,bg] at hk
 | q8 _=>simp[bG,bg] at hk
 | cQ _ _ _ _=>simp[bG,bg] at hk
 | rb _ _ _=>simp[bG,bg] at hk
 | jF _ _ _=>simp[bG,bg] at hk
 | kS _ _ _ _=>simp[bG,bg] at hk
 | lV _ _ _ _ _=>simp[bG,bg] at hk
 | q9 sz b x y=>
  rw[bG] at hv;simp only[aX] at hv
  cases hm:zF hp ct sz b (ay tm x) (jh hp sz (ay tm y)) with
  | none=>simp[hm] at hv
  | some r=>
   have⟨v1,b⟩:=r;simp only[hm,yb,yj] at hv;obtain⟨rfl,rfl,rfl⟩:=hv;refine⟨fun id o ho=>⟨o,?_,jw.refl o⟩,by lia,fun id o ho=>?_,fun id o ho hi=>?_⟩
   .rw [fo,yz (by have:=aM id o ho;lia)];exact ho
   .rw [fo] at ho;by_cases hc:ct=id
    .lia
    .simp only [hc,xy] at ho;have:=aM id o ho;lia
   .rw [fo,yz (by lia)] at ho;exact⟨o,ho⟩
 | box s x=>exact bV (q:=q) (by rw[bG] at hv ⊢;simp only[aX] at hv;exact hv)
 | iB n s z ps=>exact bV (q:=q) (by rw[bG] at hv ⊢;simp only[aX] at hv;exact hv)
 | mH s b z x y=>exact bV (q:=q) (by rw[bG] at hv ⊢;simp only[aX] at hv;exact hv)
 | Bo=>exact bV (q:=q) (by rw[bG] at hv ⊢;simp only[aX] at hv;exact hv)
 | qZ x=>exact bV (q:=q) (by rw[bG] at hv ⊢;simp only[aX] at hv;exact hv)
 | call md x xs=>
  subst bG;simp only[aX,er] at hv
  split at hv
  .rename_i g first cap hx
   cases md with
   | heap=>simp[bg] at hk
   | dyn=>simp[bg] at hk
   | pure=>
    simp only at hv
    cases hz:cu deep hp (first++(dA tm xs++cap)) with
    | none=>simp[hz] at hv
    | some z=>
     have⟨aq,aY⟩:=z;simp only[hz] at hv
     cases hr:bT P L self g aq with
     | none=>simp[hr] at hv
     | some r=>
      simp only[hr,yb,yj] at hv;obtain⟨rfl,rfl,rfl⟩:=hv;exact Zq hz aM
   | own=>
    simp only at hv
    cases hz:cu deep hp (first++(dA tm xs++cap)) with
    | none=>simp[hz] at hv
    | some z=>
     have⟨aq,aY⟩:=z;simp only[hz] at hv
     cases hr:bT P L self g aq with
     | none=>simp[hr] at hv
     | some r=>
      simp only[hr,yb] at hv;have e2:an=(own aY ct r).2.1:=by rw[hv]
      have e3:aH=(own aY ct r).2.2:=by rw[hv]
      subst e2;subst e3;have g1:=Zq hz aM;exact g1.trans (ak2 g1.lt)
  .cases md with
   | heap=>simp[bg] at hk
   | dyn=>simp[bg] at hk
   | _=>simp at hv
  .cases hv
 | _=>exact fS (q:=q) (by rw[bG] at hv ⊢;simp only[aX] at hv;exact hv)
def Nb(hh:aR O m S w hp ct)(hg:jj hp ct an aH):∃S',aR O m S' w an aH/\(∀b,S b->S' b)/\(∀b,S' b->S b\/dV m hp b)/\∀base,bU m S w hp m S' w an base:=by
 have hd:∀id o p,ai an id=Ft o->m id=Ft p->∃o',ai hp id=Ft o':=fun id o p h hm=>hg.back id o h (hh.lt id p hm)
 have⟨S',g1,g2,g3⟩:=abn hh hg.le hd hg.rq hg.lt;refine⟨S',g1,g2,g3,fun base=>⟨rfl,rfl,rfl,yu _,fun _ _ _=>rfl,g2,fun _ _=>rfl,fun b hb=>(g3 b hb).imp (fun h=>h) .inl,?_,fun _ _ _ h=>h,fun _ r h=>⟨r,h⟩⟩⟩;rintro b ⟨i,o,p,h1,h2,h3⟩;have⟨o',h4⟩:=hd i o p h1 h2;exact .inl ⟨i,o',p,h4,h2,h3⟩
def amY(hv:b8 tm hp ct q=Ft (v,an,aH)):ct<=aH:=by
 cases q<;>simp only[b8,reduceCtorEq] at hv
 all_goals
  grind
def Sj{H:Hint}{o:yT}{rs:List (Nat×Bool×Nat)}{xs:List X}(hq:oc P H (.jF rs x xs) o):∃c f,o.op=.call c/\c.callee=.value f/\x=aK H f/\xs=iC H c.args.toList:=by
 rcases hq with ⟨k,hk⟩ | ⟨c,f,rs',h1,h2,h3⟩ | ⟨_,_,_,_,_,_,_,h3⟩ | ⟨_,_,_,_,_,_,_,h3⟩ | ⟨_,_,_,_,_,_,h3⟩ | ⟨_,_,_,_,_,_,h3⟩
 .cases ho:o.op with
  | call c=>
   obtain⟨callee,args,ts⟩:=c;simp only[aP,ho] at hk
   split at hk
   .rename_i f;cases hm:H.mode k<;>simp only[hm,Op.jF.injEq,reduceCtorEq] at hk
    exact⟨_,f,rfl,rfl,hk.2.1,hk.2.2⟩
   .repeat' split at hk
    all_goals first
     | (cases hk;done)
     | (simp only[bad] at hk;cases hk;done)
     | (revert hk;generalize ym _ _=bb;intro hk;cases bb<;>simp[bad] at hk)
   .simp only [bad] at hk;cases hk
  | binOp op t x' y ty=>
   cases op<;>simp only[aP,ho,nR,oU] at hk
   case eql=>
         repeat' split at hk
         all_goals first
          | (cases hk;done)
          | (simp only[bad] at hk;cases hk;done)
          | (cases bH:(P.stoodInHeld t||P.eqGuardType P.depth t)<;>rw[bH] at hk<;>simp[bad] at hk)
   case neq=>
         repeat' split at hk
         all_goals first
          | (cases hk;done)
          | (simp only[bad] at hk;cases hk;done)
          | (cases bH:(P.stoodInHeld t||P.eqGuardType P.depth t)<;>rw[bH] at hk<;>simp[bad] at hk)
   all_goals cases hk
  | buildSlice t n parts=>
   simp only[aP,ho] at hk
   repeat' split at hk
   all_goals first
    | (cases hk;done)
    | (simp only[bad] at hk;cases hk;done)
    | (revert hk;generalize yA _ _=bb;intro hk;cases bb<;>simp[bad] at hk)
  | makeMap t r=>
   cases r<;>simp only[aP,ho] at hk
   .repeat' split at hk
    all_goals first
     | (cases hk;done)
     | (simp only[bad] at hk;cases hk;done)
   .simp only [bad] at hk;cases hk
  | next x' b=>
   cases b<;>simp only[aP,ho] at hk
   .simp only [bad] at hk;cases hk
   .cases hk
  | _=>
   simp only[aP,ho] at hk
   (repeat' split at hk)
   all_goals first
    | contradiction
    | (cases hk;done)
    | (simp only[bad] at hk;cases hk;done)
 .simp only [Op.jF.injEq] at h3;exact⟨c,f,h1,h2,h3.2.1,h3.2.2⟩
 .cases h3
 .cases h3
 .cases h3
 .cases h3
def aj2{H:Hint}{o:yT}{k:Nat}{rs:List (Nat×Bool×Nat)}(hk:Op.kS rs sz x y=aP P H k o):False:=by
 cases ho:o.op with
 | call c=>
  have⟨callee,args,ts⟩:=c;simp only[aP,ho] at hk
  split at hk
  .grind
  .repeat' split at hk
   all_goals first
    | (cases hk;done)
    | (simp only[bad] at hk;cases hk;done)
    | (revert hk;generalize ym _ _=bb;intro hk;cases bb<;>simp[bad] at hk)
  .simp only [bad] at hk;cases hk
 | binOp op t x' y ty=>
  cases op<;>simp only[aP,ho,nR,oU] at hk
  case eql=>
        repeat' split at hk
        all_goals first
         | (cases hk;done)
         | (simp only[bad] at hk;cases hk;done)
         | (cases bH:(P.stoodInHeld t||P.eqGuardType P.depth t)<;>rw[bH] at hk<;>simp[bad] at hk)
  case neq=>
        repeat' split at hk
        all_goals first
         | (cases hk;done)
         | (simp only[bad] at hk;cases hk;done)
         | (cases bH:(P.stoodInHeld t||P.eqGuardType P.depth t)<;>rw[bH] at hk<;>simp[bad] at hk)
  all_goals cases hk
 | buildSlice t n parts=>
  simp only[aP,ho] at hk
  repeat' split at hk
  all_goals first
   | (cases hk;done)
   | (simp only[bad] at hk;cases hk;done)
   | (revert hk;generalize yA _ _=bb;intro hk;cases bb<;>simp[bad] at hk)
 | makeMap t r=>
  cases r<;>simp only[aP,ho] at hk
  .repeat' split at hk
   all_goals first
    | (cases hk;done)
    | (simp only[bad] at hk;cases hk;done)
  .simp only [bad] at hk;cases hk
 | next x' b=>
  cases b<;>simp only[aP,ho] at hk
  .simp only [bad] at hk;cases hk
  .cases hk
 | _=>
  simp only[aP,ho] at hk
  (repeat' split at hk)
  all_goals first
   | contradiction
   | (cases hk;done)
   | (simp only[bad] at hk;cases hk;done)
def aj3{H:Hint}{o:yT}{k:Nat}{rs:List (Nat×Bool×Nat)}(hk:Op.lV rs sz b x y=aP P H k o):False:=by
 cases ho:o.op with
 | call c=>
  have⟨callee,args,ts⟩:=c;simp only[aP,ho] at hk
  split at hk
  .rename_i f;cases hm:H.mode k<;>simp only[hm,reduceCtorEq] at hk
  .repeat' split at hk
   all_goals first
    | (cases hk;done)
    | (simp only[bad] at hk;cases hk;done)
    | (revert hk;generalize ym _ _=bb;intro hk;cases bb<;>simp[bad] at hk)
  .simp only [bad] at hk;cases hk
 | binOp op t x' y ty=>
  cases op<;>simp only[aP,ho,nR,oU] at hk
  case eql=>
        repeat' split at hk
        all_goals first
         | (cases hk;done)
         | (simp only[bad] at hk;cases hk;done)
         | (cases bH:(P.stoodInHeld t||P.eqGuardType P.depth t)<;>rw[bH] at hk<;>simp[bad] at hk)
  case neq=>
        repeat' split at hk
        all_goals first
         | (cases hk;done)
         | (simp only[bad] at hk;cases hk;done)
         | (cases bH:(P.stoodInHeld t||P.eqGuardType P.depth t)<;>rw[bH] at hk<;>simp[bad] at hk)
  all_goals cases hk
 | buildSlice t n parts=>
  simp only[aP,ho] at hk
  repeat' split at hk
  all_goals first
   | (cases hk;done)
   | (simp only[bad] at hk;cases hk;done)
   | (revert hk;generalize yA _ _=bb;intro hk;cases bb<;>simp[bad] at hk)
 | makeMap t r=>
  cases r<;>simp only[aP,ho] at hk
  .repeat' split at hk
   all_goals first
    | (cases hk;done)
    | (simp only[bad] at hk;cases hk;done)
  .simp only [bad] at hk;cases hk
 | next x' b=>
  cases b<;>simp only[aP,ho] at hk
  .simp only [bad] at hk;cases hk
  .cases hk
 | _=>
  simp only[aP,ho] at hk
  (repeat' split at hk)
  all_goals first
   | contradiction
   | (cases hk;done)
   | (simp only[bad] at hk;cases hk;done)
def avG{H:Hint}{o:yT}(hq:oc P H (.st sz x y) o):∃t x' y',o.op=.store t x' y'/\bZ P t=Ft sz/\x=aK H x'/\y=aK H y':=by
 obtain⟨k,hk⟩:∃k,Op.st sz x y=aP P H k o:=by
  rcases hq with h | ⟨_,_,_,_,_,h⟩ | ⟨_,_,_,_,_,_,_,h⟩ | ⟨_,_,_,_,_,_,_,h⟩ | ⟨_,_,_,_,_,_,h⟩ | ⟨_,_,_,_,_,_,h⟩
  .exact h
  .cases h
  .cases h
  .cases h
  .cases h
  .cases h
 cases ho:o.op with
 | call c=>
  obtain⟨callee,args,ts⟩:=c;simp only[aP,ho] at hk
  split at hk
  .rename_i f;cases hm:H.mode k<;>simp only[hm,reduceCtorEq] at hk
  .repeat' split at hk
   all_goals first
    | (cases hk;done)
    | (simp only[bad] at hk;cases hk;done)
    | (revert hk;generalize ym _ _=bb;intro hk;cases bb<;>simp[bad] at hk)
  .simp only [bad] at hk;cases hk
 | binOp op t x' y ty=>
  cases op<;>simp only[aP,ho,nR,oU] at hk
  case eql=>
        repeat' split at hk
        all_goals first
         | (cases hk;done)
         | (simp only[bad] at hk;cases hk;done)
         | (cases bH:(P.stoodInHeld t||P.eqGuardType P.depth t)<;>rw[bH] at hk<;>simp[bad] at hk)
  case neq=>
        repeat' split at hk
        all_goals first
         | (cases hk;done)
         | (simp only[bad] at hk;cases hk;done)
         | (cases bH:(P.stoodInHeld t||P.eqGuardType P.depth t)<;>rw[bH] at hk<;>simp[bad] at hk)
  all_goals cases hk
 | buildSlice t n parts=>
  simp only[aP,ho] at hk
  repeat' split at hk
  all_goals first
   | (cases hk;done)
   | (simp only[bad] at hk;cases hk;done)
   | (revert hk;generalize yA _ _=bb;intro hk;cases bb<;>simp[bad] at hk)
 | makeMap t r=>
  cases r<;>simp only[aP,ho] at hk
  .repeat' split at hk
   all_goals first
    | (cases hk;done)
    | (simp only[bad] at hk;cases hk;done)
  .simp only [bad] at hk;cases hk
 | next x' b=>
  cases b<;>simp only[aP,ho] at hk
  .simp only [bad] at hk;cases hk
  .cases hk
 | store t x' y'=>
  simp only[aP,ho] at hk
  split at hk
  .rename_i s hs;simp only[Op.st.injEq] at hk;obtain⟨rfl,rfl,rfl⟩:=hk;exact⟨t,x',y',rfl,hs,rfl,rfl⟩
  .simp only [bad] at hk;cases hk
 | _=>
  simp only[aP,ho] at hk
  (repeat' split at hk)
  all_goals first
   | contradiction
   | (cases hk;done)
   | (simp only[bad] at hk;cases hk;done)
def aco{H:Hint}{o:yT}{rs:List (Nat×Bool×Nat)}(hq:oc P H (.kS rs sz x y) o):∃t x' y',o.op=.store t x' y'/\bZ P t=Ft sz/\x=aK H x'/\y=aK H y':=by
 rcases hq with ⟨k,hk⟩ | ⟨_,_,_,_,_,h3⟩ | ⟨t,x',y',nv,rs',h1,h2,h3⟩ | ⟨_,_,_,_,_,_,_,h3⟩ | ⟨_,_,_,_,_,_,h3⟩ | ⟨_,_,_,_,_,_,h3⟩
 .exact (aj2 hk).elim
 .cases h3
 .simp only [Op.kS.injEq] at h3;obtain⟨_,rfl,rfl,rfl⟩:=h3;exact⟨t,x',y',h1,h2,rfl,rfl⟩
 .cases h3
 .cases h3
 .cases h3
def acp{H:Hint}{o:yT}{rs:List (Nat×Bool×Nat)}(hq:oc P H (.lV rs sz b x y) o):∃k,Op.cQ sz b x y=aP P H k o:=by
 rcases hq with ⟨k,hk⟩ | ⟨_,_,_,_,_,h3⟩ | ⟨_,_,_,_,_,_,_,h3⟩ | ⟨k,rs',nv,b',x',y',h1,h3⟩ | ⟨_,_,_,_,_,_,h3⟩ | ⟨_,_,_,_,_,_,h3⟩
 .exact (aj3 hk).elim
 .cases h3
 .cases h3
 .simp only [Op.lV.injEq] at h3;obtain⟨_,rfl,rfl,rfl,rfl⟩:=h3;exact⟨k,h1⟩
 .cases h3
 .cases h3
def acq{H:Hint}{o:yT}(hq:oc P H (.cQ sz b x y) o):∃k,Op.cQ sz b x y=aP P H k o:=by
 rcases hq with h | ⟨_,_,_,_,_,h3⟩ | ⟨_,_,_,_,_,_,_,h3⟩ | ⟨_,_,_,_,_,_,_,h3⟩ | ⟨_,_,_,_,_,_,h3⟩ | ⟨_,_,_,_,_,_,h3⟩
 .exact h
 .cases h3
 .cases h3
 .cases h3
 .cases h3
 .cases h3
def aj4{H:Hint}{o:yT}(hq:oc P H q o):oc P H (jH q) o:=by
 cases h:q with
 | jF rs f xs=>
  subst h;have⟨c,f',g1,g2,g3,g4⟩:=Sj hq;exact .inr (.inl ⟨c,f',[],g1,g2,by rw[g3,g4];rfl⟩)
 | kS rs sz x y=>
  subst h;have⟨t,x',y',g1,g2,g3,g4⟩:=aco hq;refine .inl ⟨0,?_⟩;simp only[jH,aP,g1,g2,g3,g4]
 | lV rs sz b x y=>
  subst h;exact .inl (acp hq)
 | _=>subst h;exact hq
def aae(hC:oV O self)(hH:eX O H){o:yT}(hq:oc O.P H q o)(hd:∀c,o.op≠.defer c)(hv:aX O.prog O.aI self tm hp ct q=Ft (v,an,aH))(ht:bO O m S w tm a.tmps)(hh:aR O m S w hp ct)(hn:∀u m' S' w',aR O m' S' w' an aH->ct<=aH->ae O.ab m' S' w' v u->bU m S w hp m' S' w' an ct->next (a.put o.dst u) w'):o.wpIn (WF ro) 0 O.P a w next Q:=by
 have quiet:bg q<=1->o.wpIn (WF ro) 0 O.P a w next Q:=by
  intro hk;have hg:=X9 hk hv hh.aM;obtain⟨S1,g1,g2,g3,g4⟩:=Nb hh hg;refine quiet_step hC hH hk hq hd hv cJ.refl (yu _) hh.aM (fun id h1 h2=>?_) (BP (fun _ _ h=>h) g2 (fun _ _=>rfl) ht) g1 (fun u m' S' w' k1 k2 k3 k4 k5=>hn u m' S' w' k1 hg.rq k4 ((g4 ct).trans (k5.zO hg.rq)))
  cases hm:m id with
  | none=>rfl
  | some p=>have:=hh.lt id p hm;omega
 have Tz:∀{q':Op},(∃k,q'=aP O.P H k o)->b8 tm hp ct q'=Ft (v,an,aH)->o.wpIn (WF ro) 0 O.P a w next Q:=by
  intro q' gZ hw;obtain⟨k,rfl⟩:=gZ;obtain⟨n,u,w',m',S',h1,h2,h3,h4,h5,h6⟩:=aoW hH ht hh hw;exact F1 hd h1 h2 (hn u m' S' w' h3 (amY hw) h4 h6)
 have write:b8 tm hp ct q=Ft (v,an,aH)->o.wpIn (WF ro) 0 O.P a w next Q:=by
  intro hw;refine Tz ?_ hw;rcases hq with h | ⟨c,f,rs,_,_,rfl⟩ | ⟨_,_,_,_,_,_,_,rfl⟩ | ⟨_,_,_,_,_,_,_,rfl⟩ | ⟨_,_,_,_,_,_,rfl⟩ | ⟨_,_,_,_,_,_,rfl⟩
  .exact h
  .simp [b8] at hw
  .simp [b8] at hw
  .simp [b8] at hw
  .simp [b8] at hw
  .simp [b8] at hw
 have heap:∀{c:yaf} {f:xr} {g:Nat} {first cap:List AV},o.op=.call c->c.callee=.value f->ay tm (aK H f)=.fn (.f g) first cap->
   iv O.prog O.aI self hp ct g (first++(dA tm (iC H c.args.toList)++cap))=Ft (v,an,aH)->o.wpIn (WF ro) 0 O.P a w next Q:=by
  intro c f g first cap ho jx hx he;obtain⟨fi,ca,h1,h2⟩:=Na hH ht (args:=c.args) hx;refine MD ho jx h1 (hC.heap _ _ _ _ _ _ _ he m S w _ hh h2) ?_;rintro e w' ⟨u,m',S',rfl,k1,k2,k3,k4⟩;exact⟨u,rfl,hn u m' S' w' k1 k2 k3 k4⟩
 have round:∀{c:yaf} {f:xr} {l:Nat} {x y:List AV},o.op=.call c->c.callee=.value f->ay tm (aK H f)=.fn (.y l) x y->
   fV self hp ct l (dA tm (iC H c.args.toList))=Ft (v,an,aH)->o.wpIn (WF ro) 0 O.P a w next Q:=by
  intro c f l x y ho jx hx he;have rf:=bQ hH ht f;rw[hx] at rf;simp only[ae] at rf;obtain⟨p,hm,hf⟩:=rf;have eA:=DT hH ht c.args.toList;obtain⟨g,tmps,as_,body,h1,h2⟩:=hC.round _ _ _ _ _ _ _ he m S w (c.args.map a.eval) p hh hm (by simpa using eA);refine amT ho jx hf h1 h2 ?_;rintro e w' ⟨u,m',S',rfl,k1,k2,k3,k4⟩;exact⟨u,rfl,hn u m' S' w' k1 k2 k3 k4⟩
 have dyn:∀{c:yaf} {f:xr},o.op=.call c->c.callee=.value f->er O.prog O.aI self hp ct .dyn (ay tm (aK H f)) (dA tm (iC H c.args.toList))=Ft (v,an,aH)->o.wpIn (WF ro) 0 O.P a w next Q:=by
  intro c f ho jx he;unfold er at he
  split at he
  .rename_i g first cap hx
   (try simp only at he)
   cases hp0:aD (first++(dA tm (iC H c.args.toList)++cap)) with
   | true=>
    rw[hp0] at he;simp only[yq] at he
    cases hr:bT O.prog O.aI self g (first++(dA tm (iC H c.args.toList)++cap)) with
    | none=>simp[hr] at he
    | some r=>
     simp only[hr,yb,yj] at he;obtain⟨rfl,rfl,rfl⟩:=he;obtain⟨fi,ca,h1,h2⟩:=Na hH ht (args:=c.args) hx;refine MD ho jx h1 (hC.pure g _ r hr w S _ (S3 hh) hh.slt (Ay (fun _ h=>h) (fun _ _=>rfl) _ _ hp0 h2) hp0) ?_;rintro e w' ⟨u,S',rfl,hw,g1,g2,g3,g4⟩;obtain⟨S2,k1,k2,k3⟩:=Zl g4 m;have hS:∀b,S b->S2 b:=fun b hb=>k1 b (g1 b hb)
     have CZ:∀b,S2 b->S b\/w.heap.size<=b:=fun b hb=>(k2 b hb).elim (g2 b) (fun h=>.inr h.1)
     have hl:∀b,S2 b->b<w'.heap.size:=fun b hb=>(k2 b hb).elim (g3 b) (fun h=>h.2)
     exact⟨u,rfl,hn u m S2 w' (BQ hh hw hS CZ hl) (yu _) k3 (AD hh hw hS CZ)⟩
   | false=>
    rw[hp0] at he;simp only[yO] at he;exact heap ho jx hx he
  .rename_i l x y hx;exact round ho jx hx he
  .cases he
 cases bG:q with
 | jF rs x xs=>
  subst bG;simp only[aX] at hv;have key:=Sj hq;obtain⟨c,f,ho,jx,rfl,rfl⟩:=key
  cases hc:er O.prog O.aI self hp ct .dyn (ay tm (aK H f)) (dA tm (iC H c.args.toList)) with
  | none=>simp[hc] at hv
  | some r=>
   obtain⟨v1,aY,pT⟩:=r;simp only[hc] at hv
   cases hs:qh tm hp aY rs with
   | false=>rw[hs] at hv;cases hv
   | true=>
    rw[hs] at hv;simp only[yq,yb,yj] at hv;obtain⟨rfl,rfl,rfl⟩:=hv;exact dyn ho jx hc
 | call md x xs=>
  subst bG;have gZ:∃k,Op.call md x xs=aP O.P H k o:=by
   rcases hq with h | ⟨c,f,rs,_,_,h⟩ | ⟨_,_,_,_,_,_,_,h⟩ | ⟨_,_,_,_,_,_,_,h⟩ | ⟨_,_,_,_,_,_,h⟩ | ⟨_,_,_,_,_,_,h⟩
   .exact h
   .cases h
   .cases h
   .cases h
   .cases h
   .cases h
  obtain⟨k,hk⟩:=gZ
  cases md with
  | pure=>exact quiet (by simp[bg])
  | own=>exact quiet (by simp[bg])
  | heap=>
   simp only[aX] at hv;obtain⟨c,f,ho,jx,rfl,rfl⟩:=NB hk.symm (by rintro rfl;simp[ay,er] at hv);unfold er at hv
   split at hv
   .rename_i g first cap hx;exact heap ho jx hx hv
   .rename_i l x y hx;exact round ho jx hx hv
   .cases hv
  | dyn=>
   simp only[aX] at hv;obtain⟨c,f,ho,jx,rfl,rfl⟩:=NB hk.symm (by rintro rfl;simp[ay,er] at hv);exact dyn ho jx hv
 | kS rs s x y=>
  subst bG;obtain⟨t,x',y',g1,g2,g3,g4⟩:=aco hq;simp only[aX] at hv
  split at hv
  .rename_i id off hx
   cases hf:mq tm id rs with
   | false=>rw[hf] at hv;cases hv
   | true=>
    rw[hf] at hv;simp only[yq] at hv
    exact Tz (q':=.st s x y) ⟨0,by simp only[aP,g1,g2,g3,g4]⟩ hv
  .cases hv
 | lV rs s b x y=>
  subst bG;simp only[aX] at hv
  cases hc:b8 tm hp ct (.cQ s b x y) with
  | none=>simp[hc] at hv
  | some r=>
   obtain⟨v1,aY,pT⟩:=r;simp only[hc] at hv
   cases hs:(Gu tm (ay tm x) rs||qh tm hp aY rs) with
   | false=>rw[hs] at hv;cases hv
   | true=>
    rw[hs] at hv;simp only[yq,yb,yj] at hv;obtain⟨rfl,rfl,rfl⟩:=hv
    exact Tz (q':=.cQ s b x y) (acp hq) hc
 | st s x y=>subst bG;exact write (by simpa only[aX] using hv)
 | qY kk x y z=>subst bG;exact write (by simpa only[aX] using hv)
 | q8 x=>subst bG;exact write (by simpa only[aX] using hv)
 | cQ s b x y=>subst bG;exact write (by simpa only[aX] using hv)
 | rb s x y=>subst bG;exact write (by simpa only[aX] using hv)
 | oz k x lo hi=>subst bG;exact quiet (by cases k<;>simp[bg])
 | len k x=>subst bG;exact quiet (by rcases k with _ | _ | k<;>simp[bg])
 | _=>subst bG;exact quiet (by simp[bg])
end
end
end
section
open Go
section
variable {v:AV}{d:Option Nat}
def qJ(tm:Env)(g:Option (Nat×Bool)):Option Bool:=
 match g with
 | none=>Ft ydh
 | some (t,b)=>match ak tm t with | .bool c=>Ft (c==b) | .ax []=>Ft ydi | _=>Fu
def eU(P:aF)(L:Lib)(self:cd)(tm:Env)(hp:Hp)(ct:Nat)(r:aQ):gY:=
 match qJ tm r.guard with
 | some ydh=>aX P L self tm hp ct r.op
 | some ydi=>Ft (.ax [],hp,ct)
 | none=>Fu
def YD{P:aF}{L:Lib}{self:cd}{r:aQ}{rs:List aQ}{s:St}:
  cV P L self (r::rs) s=match eU P L self s.tm s.hp s.ct r with | some (v,hp,ct)=>cV P L self rs {s with tm:=put r.dst v s.tm,hp:=hp,ct:=ct} | none=>Fu:=by
 have⟨d,g,o⟩:=r;simp only[cV,eU]
 cases g with
 | none=>rfl
 | some q=>
  have⟨t,b⟩:=q;simp only[qJ];generalize ak s.tm t=x
  cases x with
  | bool c=>
   simp only;cases (c==b)<;>rfl
  | ax vs=>cases vs<;>rfl
  | _=>rfl
def abz(ops:Array yT)(g:Option (Nat×Bool))(g':Option (Nat×Bool)):Prop:=
 (g=Fu/\g'=Fu)\/∃t b j,g=Ft (t,b)/\g'=Ft (j,b)/\(ops[j]?).bind (·.dst)=Ft t
structure Em(P:xm)(H:Hint)(ops:Array yT)(r:aQ)(o:yT):Prop where
 op:oc P H r.op o
 dst:r.dst=o.dst
 ok:J6 H o.dst=ydh
 guard:abz ops r.guard o.guard
def eH(P:xm)(H:Hint)(ops:Array yT):List aQ->List yT->Prop
 | [],[]=>True
 | r::rs,o::l=>(Em P H ops r o\/(r.guard=Fu/\r.op=bad))/\eH P H ops rs l
 | _,_=>False
def YE{P:xm}{H:Hint}{ops:Array yT}:∀(l:List yT) (k:Nat),eH P H ops (DN P H ops l k).1 l
 | [],k=>by simp[DN,eH]
 | o::l,k=>by
  have ih:=YE (P:=P) (H:=H) (ops:=ops) l (k+(bif Tu o then 1 else 0));simp only[DN];generalize hq:DN P H ops l (k+(bif Tu o then 1 else 0))=q at ih;have⟨l',k'⟩:=q;simp only;have US:eH P H ops (⟨o.dst,Fu,bad⟩::l') (o::l):=⟨.inr ⟨rfl,rfl⟩,ih⟩
  cases hg:o.guard with
  | none=>
   simp only
   cases hd:J6 H o.dst with
   | false=>exact US
   | true=>exact⟨.inl ⟨.inl ⟨k,rfl⟩,rfl,hd,.inl ⟨rfl,hg⟩⟩,ih⟩
  | some p=>
   have⟨j,b⟩:=p;simp only
   cases ht:(ops[j]?).bind (·.dst) with
   | none=>exact US
   | some t=>
    simp only
    cases hd:J6 H o.dst with
    | false=>exact US
    | true=>exact⟨.inl ⟨.inl ⟨k,rfl⟩,rfl,hd,.inr ⟨t,b,j,rfl,hg,ht⟩⟩,ih⟩
section
variable {O:bl}{H:Hint}{m:Mp}{S:Nat->Prop}{w:yi}{tm:Env}{a:Act}{hp an:Hp}{ct aH:Nat}{self:cd}{ro:Option Nat}{Q:uC->Act->yi->Prop}{ops:Array yT}
def Sk{tm:Env}{t:Nat}:ak (put d v tm) t=if d=Ft t then v else ak tm t:=by
 cases d with
 | none=>simp[put]
 | some i=>
  simp only[put,ak];by_cases h:i=t
  .subst h;simp
  .have:ym i t=ydi:=by
    cases hq:ym i t with
    | false=>rfl
    | true=>exact absurd (yf hq) h
   simp[this,h]
def Nc(a:Act)(d:Option Nat)(u:yg):(a.put d u).tmps.size=a.tmps.size:=by
 cases d with
 | none=>rfl
 | some i=>simp[Act.put]
def Rl(a:Act)(d:Option Nat)(u:yg):(a.put d u).defers=a.defers:=by
 cases d with
 | none=>rfl
 | some i=>rfl
def Sl{a:Act}{u:yg}{t:Nat}(hd:∀i,d=Ft i->i<a.tmps.size):(a.put d u).tmps.getD t undef=if d=Ft t then u else a.tmps.getD t undef:=by
 cases d with
 | none=>simp[Act.put]
 | some i=>
  have hi:=hd i rfl;by_cases h:i=t
  .subst h;simp[Act.put,hi]
  .simp only [Act.put,yb,h,xy];simp[Array.getElem?_setIfInBounds_ne h]
def aaf{n:Nat}(h:J6 H d=ydh)(hn:H.n<=n):∀i,d=Ft i->i<n:=by
 rintro i rfl
 have:=qt.1 h
 lia
def Sm{u:yg}(ht:bO O m S w tm a.tmps)(hd:∀i,d=Ft i->i<a.tmps.size)(hv:ae O.ab m S w v u):bO O m S w (put d v tm) (a.put d u).tmps:=fun t=>by
 rw[Sk,Sl hd]
 split
 .exact hv
 .exact ht t
def Zr{o:yT}{g:Option (Nat×Bool)}{b:Bool}(hg:abz ops g o.guard)(ht:∀t,t∈Ub g->ae O.ab m S w (ak tm t) (a.tmps.getD t undef))(hw:qJ tm g=Ft b):Region.wanted o (yielded ops a.tmps)=b:=by
 rcases hg with ⟨rfl,h2⟩ | ⟨t,c,j,rfl,h2,h3⟩
 .simp only [qJ,yb] at hw;subst hw;simp[Region.wanted,h2]
 .simp only [qJ] at hw;have h4:=ht t (by simp[Ub]);simp only[Region.wanted,h2]
  split at hw
  .rename_i d hd;rw[hd] at h4;simp only[ae] at h4;simp only[yb] at hw
   have:yielded ops a.tmps j=Ft d:=by
    simp only[yielded,h3,wG];have h5:a.tmps[t]? =Ft (.bool d):=by
     simp only[wv] at h4
     cases hq:a.tmps[t]? with
     | none=>rw[hq] at h4;simp[undef] at h4
     | some x=>rw[hq] at h4;simp at h4;rw[h4]
    rw[h5]
   rw[this,<-hw];cases d<;>cases c<;>rfl
  .rename_i hd;rw[hd] at h4;simp only[ae,az] at h4;have⟨xs,h4,h5⟩:=h4;simp only[yb] at hw;subst hw
   have:yielded ops a.tmps j=Fu:=by
    simp only[yielded,h3,wG];simp only[wv] at h4
    cases hq:a.tmps[t]? with
    | none=>rfl
    | some x=>rw[hq] at h4;simp at h4;rw[h4]
   rw[this];rfl
  .cases hw
def Ya{o:yT}{q:Op}(hq:oc O.P H q o){r:AV×Hp×Nat}(hv:aX O.prog O.aI self tm hp ct q=Ft r):∀c,o.op≠.defer c:=by
 rcases hq with ⟨k,rfl⟩ | ⟨c,f,rs,h1,_,_⟩ | ⟨_,_,_,_,_,h1,_,_⟩ | ⟨k,rs,sz,b,x,y,h1,rfl⟩ | ⟨k,sz,b,x,y,h1,rfl⟩ | ⟨k,n,sz,z,ps,h1,rfl⟩
 .exact ajX hv
 .intro c' h;rw[h1] at h;cases h
 .intro c' h;rw[h1] at h;cases h
 .intro c' h;simp only[aP,h] at h1;simp[bad] at h1
 .intro c' h;simp only[aP,h] at h1;simp[bad] at h1
 .intro c' h;simp only[aP,h] at h1;simp[bad] at h1
def aoY(hC:oV O self)(hH:eX O H){i:Nat}{r:aQ}{o:yT}(hi:ops[i]? =Ft o)(hr:Em O.P H ops r o\/(r.guard=Fu/\r.op=bad))(hv:eU O.prog O.aI self tm hp ct r=Ft (v,an,aH))(ht:bO O m S w tm a.tmps)(hh:aR O m S w hp ct)(hn:H.n<=a.tmps.size){K:Act->yi->Prop}(hK:∀u m' S' w',aR O m' S' w' an aH->ct<=aH->bO O m' S' w' (put r.dst v tm) (a.put o.dst u).tmps->bU m S w hp m' S' w' an ct->K (a.put o.dst u) w'):wpOpIn (WF ro) 0 O.P ops Q i K a w:=by
 rcases hr with hr | ⟨h1,h2⟩
 case inr=>
  simp only[eU,h1,qJ,h2,bad,aX,er,ay] at hv;cases hv
 unfold wpOpIn;simp only[hi];unfold eU at hv
 cases hw:qJ tm r.guard with
 | none=>simp[hw] at hv
 | some b=>
  have Wq:=Zr hr.guard (fun t _=>ht t) hw;have hd:=aaf hr.ok hn;rw[Wq]
  cases b with
  | true=>
   simp only[hw] at hv;simp only[xQ];refine aae hC hH hr.op (Ya hr.op hv) hv ht hh (fun u m' S' w' k1 k2 k3 k4=>hK u m' S' w' k1 k2 ?_ k4);rw[hr.dst];exact Sm (BP (fun id p h=>k4.old id p (hh.lt id p h) h) k4.sub (fun b hb=>k4.still b hb) ht) hd k3
  | false=>
   simp only[hw,yb,yj] at hv;obtain⟨rfl,rfl,rfl⟩:=hv;simp only[yC,xy];refine⟨fun _ _=>trivial,hK undef m S w hh (yu _) ?_ bU.refl⟩;rw[hr.dst];exact Sm ht hd (by simp[ae,az,undef])
def abA(hC:oV O self)(hH:eX O H):∀(l:List yT) (rs:List aQ) (i:Nat) (s s':St) (a:Act) (m:Mp) (S:Nat->Prop) (w:yi),(∀j,l[j]? =ops[i+j]?)->eH O.P H ops rs l->
  cV O.prog O.aI self rs s=Ft s'->bO O m S w s.tm a.tmps->aR O m S w s.hp s.ct->H.n<=a.tmps.size->
  (∀a' m' S' w',aR O m' S' w' s'.hp s'.ct->s.ct<=s'.ct->bO O m' S' w' s'.tm a'.tmps->bU m S w s.hp m' S' w' s'.hp s.ct->a'.tmps.size=a.tmps.size->a'.defers=a.defers->s'.base=s.base->Q .normal a' w')->
  wpOpsIn (WF ro) 0 O.P ops Q (List.range' i l.length) a w
 | [],rs,i,s,s',a,m,S,w,hl,hr,hv,ht,hh,hn,hQ=>by
  cases rs with
  | cons _ _=>simp[eH] at hr
  | nil=>
   simp only[cV,yb] at hv;subst hv;simp only[yH,List.range'_zero,wpOpsIn];exact hQ a m S w hh (yu _) ht bU.refl rfl rfl rfl
 | o::l,rs,i,s,s',a,m,S,w,hl,hr,hv,ht,hh,hn,hQ=>by
  cases rs with
  | nil=>simp[eH] at hr
  | cons r rs=>
   simp only[eH] at hr;rw[YD] at hv
   cases h1:eU O.prog O.aI self s.tm s.hp s.ct r with
   | none=>simp[h1] at hv
   | some q=>
    have⟨v,aY,pT⟩:=q;simp only[h1] at hv;have hi:ops[i]? =Ft o:=by have:=hl 0;simpa using this.symm
    rw[yy,List.range'_succ,wpOpsIn_cons];refine aoY hC hH hi hr.1 h1 ht hh hn (fun u m1 S1 w1 k1 k2 k3 k4=>?_)
    refine abA hC hH l rs (i+1) {s with tm:=put r.dst v s.tm,hp:=aY,ct:=pT} s' _ m1 S1 w1 (fun j=>?_) hr.2 hv k3 k1 (by rw[Nc];exact hn) (fun a' m' S' w' g1 g2 g3 g4 g5 g6 g7=>?_)
    .have:=hl (j+1)
     rw[yaM] at this;rw[this];congr 1;lia
    .exact hQ a' m' S' w' g1 (xo k2 g2) g3 (k4.trans (g4.zO k2)) (by rw[g5,Nc]) (by rw[g6,Rl]) g7
end
end
end
section
open Go
section
variable {ops:Array yT}
def Q6{acc:List Nat}{i:Nat}:∀{es:List Edge},vI (B7 acc es) i=ydh->∃e,e∈es/\Region.binds .any e=ydh/\(i=e.on\/vI (acc.getD e.on 0) i=ydh)
 | [],h=>by simp[B7] at h
 | e::r,h=>by
  simp only[B7] at h
  cases hb:Region.binds .any e with
  | false=>
   rw[hb] at h;have⟨e',h1,h2⟩:=Q6 h
   grind
  | true=>
   rw[hb] at h;simp only[yq,ybV,uF] at h;rcases h with (h | h) | h
   .grind
   .grind
   .have ⟨e',h1,h2⟩:=Q6 h
    grind
def Zs{l:List yT}{acc:List Nat}{j:Nat}(hj:j<acc.length):(jW acc l)[j]? =acc[j]? :=by
 induction l generalizing acc with
 | nil=>rfl
 | cons o l ih=>
  simp only[jW]
  grind
def aj5{l:List yT}{acc:List Nat}{j:Nat}{o:yT}(h:l[j]? =Ft o):∃A5:List Nat,(jW acc l)[acc.length+j]? =Ft (B7 A5 o.after.toList)/\A5.length=acc.length+j/\∀k,k<A5.length->A5[k]? =(jW acc l)[k]? :=by
 induction l generalizing acc j with
 | nil=>simp at h
 | cons x l ih=>
  cases j with
  | zero=>
   simp only[ui,yb] at h;subst h;refine⟨acc,?_,by simp,fun k hk=>?_⟩
   .simp only [jW];rw[Zs (by simp)]
    simp
   .simp only [jW];rw[Zs (by rw[yJ];lia),List.getElem?_append_left hk]
  | succ j=>
   have⟨A5,h1,h2,h3⟩:=ih (acc:=acc++[B7 acc x.after.toList]) h;simp only[yJ,yy,yH] at h1 h2;refine⟨A5,?_,by lia,fun k hk=>?_⟩
   .simp only [jW]
    grind
   .simp only [jW];exact h3 k hk
def Ord(ops:Array yT)(i j:Nat):Prop:=vI ((jW [] ops.toList).getD j 0) i=ydh
def TA(ops:Array yT)(D:Nat->Prop):Prop:=∀j o,ops[j]? =Ft o->D j->∀e,e∈o.after->Region.binds .any e=ydh->D e.on
def Zt{D:Nat->Prop}(hc:TA ops D):∀(j:Nat) (o:yT),ops[j]? =Ft o->(∀e,e∈o.after->Region.binds .any e=ydh->D e.on)->∀i,Ord ops i j->D i:=by
 intro j
 induction j using vP with
 | _ j ih=>
  intro o ho hr i hi;have jv:ops.toList[j]? =Ft o:=by simp_all
  have⟨A5,h1,h2,h3⟩:=aj5 (acc:=[]) jv;simp only[yH,yd] at h1 h2;unfold Ord at hi;rw[yD,h1,xF] at hi;have⟨e,g1,g2,g3⟩:=Q6 hi;have he:D e.on:=hr e (by simpa using g1) g2;rcases g3 with rfl | g3
  .grind
  .rcases vK e.on j with aM | kF
   .have h4:=h3 e.on (by lia);have Wr:e.on<ops.size:=by
     grind
    have Wn:ops[e.on]? =Ft ops[e.on]:=by simp_all
    refine ih e.on aM _ Wn (fun e' he' bH=>hc e.on _ Wn he e' he' bH) i ?_;unfold Ord
    grind
   .grind
def amZ{D:Nat->Prop}(hc:TA ops D){i j:Nat}{o:yT}(ho:ops[j]? =Ft o)(hj:D j)(hi:Ord ops i j):D i:=
 Zt hc j o ho (fun e he hb=>hc j o ho hj e he hb) i hi
def XW:∀{l:List yT} {k j:Nat} {o:yT},nN l k=ydh->l[j]? =Ft o->∀e,e∈o.after->Region.binds .any e=ydh->e.on<k+j
 | [],k,j,o,_,h=>by simp at h
 | x::l,k,j,o,hb,h=>by
  simp only[nN,ye] at hb
  cases j with
  | zero=>
   simp only[ui,yb] at h;subst h;intro e he sR
   have:=ybA.1 hb.1 e (by simpa using he)
   simp_all
  | succ j=>
   intro e he sR
   have:=XW hb.2 h e he sR
   lia
end
def Ew(a b:aQ)(r:List aQ):Prop:=M6 a b=ydi/\(IR a b=ydi\/I9 a b r=ydh)
def XY{m:Nat}{b:aQ}:∀{l:List aQ} {k i:Nat} {a:aQ},M7 m b l k=ydh->l[i]? =Ft a->vI m (k+i)=ydh\/Ew a b (l.drop (i+1))
 | [],k,i,a,_,h=>by simp at h
 | x::l,k,i,a,hp,h=>by
  simp only[M7,ye] at hp
  cases i with
  | zero=>
   simp only[ui,yb] at h;subst h;have h1:=hp.1;simp only[uF,vS,yaZ,Bool.and_eq_false_iff,Bool.not_eq_false'] at h1;rcases h1 with h1 | ⟨h1,h2⟩
   .grind
   .exact .inr ⟨h1,by simpa using h2⟩
  | succ i=>
   rcases XY hp.2 h with h1 | h1
   .grind
   .grind
def QY:∀{l done:List aQ} {ms:List Nat} {i j:Nat} {a b:aQ},qg done l ms=ydh->(done++l)[i]? =Ft a->l[j]? =Ft b->i<done.length+j->
  ∃m,ms[j]? =Ft m/\(vI m i=ydh\/Ew a b (((done++l).take (done.length+j)).drop (i+1)))
 | [],done,ms,i,j,a,b,_,_,h,_=>by simp at h
 | x::l,done,[],i,j,a,b,hp,_,h,_=>by simp[qg] at hp
 | x::l,done,m::ms,i,j,a,b,hp,ha,h,pU=>by
  simp only[qg,ye] at hp
  cases j with
  | zero=>
   have EX:done[i]? =Ft a:=by grind
   have:=XY hp.1 EX
   grind
  | succ j=>
   have e:done++x::l=(done++[x])++l:=by simp
   have⟨m',h1,h2⟩:=QY (i:=i) (a:=a) hp.2 (by rw[<-e];exact ha) h (by simp;lia)
   grind
def Ml{a b:aQ}(h:M6 a b=ydi):(∀d,a.dst=Ft d->d∉DS b/\b.dst≠Ft d)/\(∀d,b.dst=Ft d->d∉DS a):=by
 have mem:∀{i:Nat} {l:List Nat},jn i l=ydi->i∉l:=by
  intro i l
  induction l with
  | nil=>intro _ h;cases h
  | cons j r ih=>
   intro h hm;simp only[jn] at h
   cases hb:ym j i with
   | true=>rw[hb] at h;cases h
   | false=>
    simp_all
 simp only[M6,yaZ] at h;have⟨⟨h1,h2⟩,h3⟩:=h;refine⟨fun d hd=>⟨mem (by simpa[hd,Gt] using h1),fun hb=>?_⟩,fun d hd=>mem (by simpa[hd,Gt] using h2)⟩;rw[hd,hb] at h3;simp[Uc] at h3
def YF{t:Nat}:∀{l:List aQ},Ee t l=ydh->∀r,r∈l->r.dst≠Ft t
 | [],_,r,h=>by cases h
 | x::l,h,r,hr=>by
  simp only[Ee,ye,vS] at h;rcases xI.1 hr with rfl | hr
  .intro hd;rw[hd] at h;simp[Gt,jn] at h
  .exact YF h.2 r hr
def MV{sz t:Nat}{ag:Bool}:∀{l:List (Nat×Bool×Nat)},Es sz ag t l=ydh->(sz,ag,t)∈l
 | [],h=>by simp[Es] at h
 | (s,g,u)::r,h=>by
  simp only[Es,uF,ye] at h;rcases h with ⟨h1,h2,h3⟩ | h
  .simp_all
  .exact xL _ (MV h)
def Sn:∀{a b:List Nat},dh a b=ydh->a=b
 | [],[],_=>rfl
 | [],_::_,h=>by simp[dh] at h
 | _::_,[],h=>by simp[dh] at h
 | x::a,y::b,h=>by
  simp only[dh,ye] at h;rw[yf h.1,Sn h.2]
def ak3{a b:AV}(h:UK a b=ydh):a=b:=by
 unfold UK at h
 split at h
 .grind
 .grind
 .rw [Sn h]
 .rfl
 .rfl
 .simp_all
 .simp_all
 .simp_all
 .cases h
def QZ{tm:Env}{hp an:Hp}{sz t:Nat}{ag:Bool}{v:AV}:∀{l:List (Nat×Bool×Nat)},qh tm hp an l=ydh->(sz,ag,t)∈l->fL hp sz ag (ak tm t)=Ft v->fL an sz ag (ak tm t)=Ft v
 | [],_,h,_=>by cases h
 | (s,g,u)::r,h,hm,hv=>by
  simp only[qh] at h
  cases h1:fL hp s g (ak tm u) with
  | none=>simp[h1] at h
  | some x=>
   cases h2:fL an s g (ak tm u) with
   | none=>simp[h1,h2] at h
   | some y=>
    simp only[h1,h2,ye] at h;rcases xI.1 hm with e | hm
    .simp only [yj] at e;obtain⟨rfl,rfl,rfl⟩:=e;rw[h1] at hv;rw[h2,<-ak3 h.1,hv]
    .exact QZ h.2 hm hv
structure OL(P:aF)(L:Lib)(run:cd)(rs:List aQ)(bd:Nat->Env)(bB:Nat->Hp)(bw:Nat->Nat)(vF:Nat->AV):Prop where
 step:∀i r,rs[i]? =Ft r->eU P L run (bd i) (bB i) (bw i) r=Ft (vF i,bB (i+1),bw (i+1))
 tm:∀i r,rs[i]? =Ft r->bd (i+1)=put r.dst (vF i) (bd i)
def abB{P:aF}{L:Lib}{self:cd}:∀{rs:List aQ} {s s':St},cV P L self rs s=Ft s'->
  ∃bd bB bw vF,OL P L self rs bd bB bw vF/\bd 0=s.tm/\bB 0=s.hp/\bw 0=s.ct/\bd rs.length=s'.tm/\bB rs.length=s'.hp/\bw rs.length=s'.ct/\s'.base=s.base
 | [],s,s',h=>by
  simp only[cV,yb] at h;subst h;exact⟨fun _=>s.tm,fun _=>s.hp,fun _=>s.ct,fun _=>.undef,⟨fun i r h=>by simp at h,fun i r h=>by simp at h⟩,rfl,rfl,rfl,rfl,rfl,rfl,rfl⟩
 | r::rs,s,s',h=>by
  rw[YD] at h
  cases h1:eU P L self s.tm s.hp s.ct r with
  | none=>simp[h1] at h
  | some q=>
   have⟨v,aY,pT⟩:=q;simp only[h1] at h;have⟨bd,bB,bw,vF,g1,g2,g3,g4,g5,g6,g7,g8⟩:=abB h;refine⟨fun i=>match i with | 0=>s.tm | i+1=>bd i,fun i=>match i with | 0=>s.hp | i+1=>bB i,fun i=>match i with | 0=>s.ct | i+1=>bw i,fun i=>match i with | 0=>v | i+1=>vF i,⟨?_,?_⟩,rfl,rfl,rfl,by simpa using g5,by simpa using g6,by simpa using g7,g8⟩
   .intro i r' hi
    cases i with
    | zero=>
     grind
    | succ i=>exact g1.step i r' (by simpa using hi)
   .intro i r' hi
    cases i with
    | zero=>
     grind
    | succ i=>exact g1.tm i r' (by simpa using hi)
section
variable {P:aF}{L:Lib}{self:cd}{rs:List aQ}{bd:Nat->Env}{bB:Nat->Hp}{bw:Nat->Nat}{vF:Nat->AV}
def IU(hR:OL P L self rs bd bB bw vF){t i:Nat}:∀(k:Nat),i+k<=rs.length->(∀j r,i<=j->j<i+k->rs[j]? =Ft r->r.dst≠Ft t)->ak (bd (i+k)) t=ak (bd i) t
 | 0,_,_=>rfl
 | k+1,hk,h=>by
  have hr:rs[i+k]? =Ft rs[i+k]:=by simp_all
  rw[show i+(k+1)=i+k+1 by lia,hR.tm _ _ hr,Sk,yz (h (i+k) _ (by lia) (by lia) hr)];exact IU hR k (by lia) (fun j r h1 h2=>h j r h1 (by lia))
def Zu{r:aQ}{tm:Env}{hp an:Hp}{ct aH:Nat}{v:AV}(hk:bg r.op<=1)(hv:eU P L self tm hp ct r=Ft (v,an,aH))(aM:∀id o,ai hp id=Ft o->id<ct):jj hp ct an aH:=by
 unfold eU at hv
 cases hw:qJ tm r.guard with
 | none=>simp[hw] at hv
 | some b=>
  cases b with
  | true=>simp only[hw] at hv;exact X9 hk hv aM
  | false=>
   simp only[hw,yb,yj] at hv;obtain⟨rfl,rfl,rfl⟩:=hv;exact jj.refl aM
def MW(hR:OL P L self rs bd bB bw vF){i:Nat}(aM:∀id o,ai (bB i) id=Ft o->id<bw i):∀(k:Nat),i+k<=rs.length->(∀j r,i<=j->j<i+k->rs[j]? =Ft r->bg r.op<=1)->jj (bB i) (bw i) (bB (i+k)) (bw (i+k))
 | 0,_,_=>jj.refl aM
 | k+1,hk,h=>by
  have ih:=MW hR aM k (by lia) (fun j r h1 h2=>h j r h1 (by lia));have hr:rs[i+k]? =Ft rs[i+k]:=by simp_all
  exact ih.trans (Zu (h (i+k) _ (by lia) (by lia) hr) (hR.step _ _ hr) ih.lt)
end
end
section
open Go
section
variable {tm:Env}{hp:Hp}{ct i:Nat}{r:aQ}
def Nf{tm:Env}{t:Nat}:∀{l:List Nat},t∈l->ak (bE tm l) t=ak tm t
 | [],h=>by cases h
 | i::r,h=>by
  simp only[bE,ak]
  cases hb:ym i t with
  | true=>rw[yf hb];rfl
  | false=>
   rcases xI.1 h with e | h
   .simp_all
   .exact Nf h
def ak4{P:aF}{L:Lib}{self:cd}{tm':Env}{o:Op}{r:AV×Hp×Nat}(h:∀t,t∈kv o->ak tm' t=ak tm t)(hv:aX P L self tm hp ct o=Ft r):aX P L self tm' hp ct (jH o)=Ft r:=by
 cases o with
 | jF rs f xs=>
  simp only[kv,xH] at h;simp only[jH,aX] at hv ⊢
  rw[dw (x:=f) fun t ht=>h t (.inl ht),DD (xs:=xs) fun t ht=>h t (.inr ht)]
  cases hc:er P L self hp ct .dyn (ay tm f) (dA tm xs) with
  | none=>simp[hc] at hv
  | some q=>
   obtain⟨v1,aY,pT⟩:=q;simp only[hc] at hv
   cases hs:qh tm hp aY rs with
   | false=>rw[hs] at hv;cases hv
   | true=>
    rw[hs] at hv;simpa only[qh,yq] using hv
 | kS rs sz x v=>
  simp only[jH,aX] at hv ⊢
  rw[DC (o:=.st sz x v) (tm:=tm) h]
  split at hv
  .rename_i id off hx
   cases hf:mq tm id rs with
   | false=>rw[hf] at hv;cases hv
   | true=>rw[hf] at hv;exact hv
  .cases hv
 | lV rs sz b x v=>
  simp only[jH,aX] at hv ⊢
  rw[DC (o:=.cQ sz b x v) (tm:=tm) h]
  cases hc:b8 tm hp ct (.cQ sz b x v) with
  | none=>simp[hc] at hv
  | some q=>
   obtain⟨v1,aY,pT⟩:=q;simp only[hc] at hv
   cases hs:(Gu tm (ay tm x) rs||qh tm hp aY rs) with
   | false=>rw[hs] at hv;cases hv
   | true=>rw[hs] at hv;exact hv
 | q9 sz b x v=>
  rw[<-hv];simp only[kv,xH] at h;simp only[jH,aX]
  rw[dw (x:=x) fun t ht=>h t (.inl ht),dw (x:=v) fun t ht=>h t (.inr ht)]
 | call md f xs=>
  rw[<-hv];simp only[kv,xH] at h;simp only[jH,aX]
  rw[dw (x:=f) fun t ht=>h t (.inl ht),DD (xs:=xs) fun t ht=>h t (.inr ht)]
 | st s x y=>rw[<-hv];simp only[jH,aX];exact DC h
 | qY kk x y z=>rw[<-hv];simp only[jH,aX];exact DC h
 | q8 x=>rw[<-hv];simp only[jH,aX];exact DC h
 | cQ s b x y=>rw[<-hv];simp only[jH,aX];exact DC h
 | rb s x y=>rw[<-hv];simp only[jH,aX];exact DC h
 | box s x=>rw[<-hv];simp only[jH,aX];rw[II (hp:=hp) h]
 | iB n s z ps=>rw[<-hv];simp only[jH,aX];rw[II (hp:=hp) h]
 | mH s b z x y=>rw[<-hv];simp only[jH,aX];rw[II (hp:=hp) h]
 | Bo=>exact hv
 | qZ x=>rw[<-hv];simp only[jH,aX];rw[II (hp:=hp) h]
 | _=>rw[<-hv];simp only[jH,aX];rw[ajs h]
def aag{P:aF}{L:Lib}{self:cd}{an:Hp}{aH:Nat}{q:Op}{v:AV}(hk:bg q=0\/∃sz ag x,q=.ld sz ag x)(hv:aX P L self tm hp ct q=Ft (v,an,aH)):bf tm hp q=Ft v/\an=hp/\aH=ct:=by
 have fS:∀{q:Op},(match bf tm hp q with | some v=>Ft (v,hp,ct) | none=>(Fu:gY))=Ft (v,an,aH)->bf tm hp q=Ft v/\an=hp/\aH=ct:=by
  intro q h
  cases hm:bf tm hp q with
  | none=>simp[hm] at h
  | some r=>
   simp only[hm,yb,yj] at h;obtain⟨rfl,rfl,rfl⟩:=h;exact⟨rfl,rfl,rfl⟩
 rcases hk with hk | ⟨sz,ag,x,rfl⟩
 .cases bG:q with
  | call md f xs=>subst bG;cases md<;>simp[bg] at hk
  | jF rs f xs=>subst bG;simp[bg] at hk
  | kS rs s x y=>subst bG;simp[bg] at hk
  | lV rs s b x y=>subst bG;simp[bg] at hk
  | q9 s b x y=>subst bG;simp[bg] at hk
  | st s x y=>subst bG;simp[bg] at hk
  | qY kk x y z=>subst bG;simp[bg] at hk
  | q8 x=>subst bG;simp[bg] at hk
  | cQ s b x y=>subst bG;simp[bg] at hk
  | rb s x y=>subst bG;simp[bg] at hk
  | box s x=>subst bG;simp[bg] at hk
  | iB n s z ps=>subst bG;simp[bg] at hk
  | mH s b z x y=>subst bG;simp[bg] at hk
  | Bo=>subst bG;simp[bg] at hk
  | qZ x=>subst bG;simp[bg] at hk
  | _=>exact bG▸fS (q:=q) (by rw[bG] at hv ⊢;simp only[aX] at hv;exact hv)
 .exact fS (q:=.ld sz ag x) (by simp only[aX] at hv;exact hv)
section
variable {O:bl}{H:Hint}{ops:Array yT}{π:Nat->Nat}{rs:List aQ}{bd:Nat->Env}{bB:Nat->Hp}{bw:Nat->Nat}{vF:Nat->AV}{self:cd}{ro:Option Nat}{Q:uC->Act->yi->Prop}
structure zI(O:bl)(H:Hint)(EY:cd)(ops:Array yT)(π:Nat->Nat)(rs:List aQ)(bd:Nat->Env)(bB:Nat->Hp)(bw:Nat->Nat)(vF:Nat->AV):Prop where
 run:OL O.prog O.aI EY rs bd bB bw vF
 len:rs.length=ops.size
 of:∀(i:Nat) (r:aQ) (o:yT),rs[i]? =Ft r->ops[π i]? =Ft o->Em O.P H ops r o
 pair:∀(i j:Nat) (a b:aQ),i<j->rs[i]? =Ft a->rs[j]? =Ft b->Ord ops (π i) (π j)\/Ew a b ((rs.take j).drop (i+1))
 back:∀(i:Nat) (o:yT),ops[i]? =Ft o->∀e,e∈o.after->Region.binds .any e=ydh->e.on<i
def kH(rs:List aQ)(i:Nat):Prop:=∃r,rs[i]? =Ft r/\bg r.op=2
def TB(rs:List aQ):∀(k i:Nat),i+k=rs.length->∃c,i<=c/\c<=rs.length/\(∀j,i<=j->j<c->¬kH rs j)/\(c=rs.length\/kH rs c)
 | 0,i,h=>⟨i,yu _,by lia,fun j h1 h2=>by lia,.inl (by lia)⟩
 | k+1,i,h=>by
  rcases uY (kH rs i) with hw | hw
  .grind
  .have ⟨c,h1,h2,h3,h4⟩:=TB rs k (i+1) (by lia)
   grind
def Jc{rs:List aQ}(hr:rs[i]? =Ft r)(hw:¬kH rs i):bg r.op<=1:=by
 have h:bg r.op≠2:=fun e=>hw ⟨r,hr,e⟩
 have:bg r.op<=2:=by
  cases r.op with
  | oz k x lo hi=>cases k<;>simp[bg]
  | len k x=>rcases k with _ | _ | k<;>simp[bg]
  | call md f xs=>cases md<;>simp[bg]
  | _=>simp[bg]
 lia
def P0(O:bl)(rs:List aQ)(bd:Nat->Env)(D:Nat->Prop)(m:Mp)(S:Nat->Prop)(w:yi)(a:Act):Prop:=
 ∀t,∃j,j<=rs.length/\(∀(i:Nat) (r:aQ),rs[i]? =Ft r->r.dst=Ft t->(D i↔i<j))/\ae O.ab m S w (ak (bd j) t) (a.tmps.getD t undef)
def aoZ{D:Nat->Prop}{m:Mp}{S:Nat->Prop}{w:yi}{a:Act}(hG:zI O H self ops π rs bd bB bw vF)(hT:P0 O rs bd D m S w a)(hr:rs[i]? =Ft r)(hi:¬D i)(eI:∀j,Ord ops (π j) (π i)->D j)(fJ:∀j,Ord ops (π i) (π j)->¬D j):∀t,t∈DS r->ae O.ab m S w (ak (bd i) t) (a.tmps.getD t undef):=by
 intro t ht;obtain⟨j,h1,h2,h3⟩:=hT t;have By:i<rs.length:=(xG.1 hr).1;have e:ak (bd j) t=ak (bd i) t:=by
  rcases Nat.le_total j i with C2 | pU
  .obtain ⟨k,rfl⟩:∃k,i=j+k:=⟨i-j,by omega⟩;refine (IU hG.run k (by omega) (fun l rl g1 g2 hl hd=>?_)).symm;have hnD:¬D l:=fun hD=>by have:=(h2 l rl hl hd).1 hD;omega
   rcases hG.pair l (j+k) rl r (by omega) hl hr with ho | hf
   .exact hnD (eI l ho)
   .exact ((Ml hf.1).1 t hd).1 ht
  .obtain ⟨k,rfl⟩:∃k,j=i+k:=⟨j-i,by omega⟩;refine IU hG.run k h1 (fun l rl g1 g2 hl hd=>?_);have hD:D l:=(h2 l rl hl hd).2 (by omega);rcases vL g1 with rfl | g1
   .exact hi hD
   .rcases hG.pair i l r rl g1 hr hl with ho | hf
    .exact fJ l ho hD
    .exact (Ml hf.1).2 t hd ht
 rw[<-e];exact h3
def abC{D D':Nat->Prop}{m m':Mp}{S S':Nat->Prop}{w w':yi}{a:Act}{u:yg}(hG:zI O H self ops π rs bd bB bw vF)(hT:P0 O rs bd D m S w a)(hr:rs[i]? =Ft r)(hi:¬D i)(eI:∀j,Ord ops (π j) (π i)->D j)(fJ:∀j,Ord ops (π i) (π j)->¬D j)(hD:∀j,D' j↔D j\/j=i)(hm:cY m m')(hS:∀b,S b->S' b)(hw:fR S w w')(hd:∀d,r.dst=Ft d->d<a.tmps.size)(hv:ae O.ab m' S' w' (vF i) u):P0 O rs bd D' m' S' w' (a.put r.dst u):=by
 intro t;have By:i<rs.length:=(xG.1 hr).1;by_cases Hc:r.dst=Ft t
 .refine ⟨i+1,By,fun l rl hl Hd=>?_,?_⟩
  .rw [hD];constructor
   .rintro (h | h)
    .rcases vK l (i+1) with g | g
     .exact g
     .rcases hG.pair i l r rl (by omega) hr hl with ho | hf
      .exact (fJ l ho h).elim
      .exact (((Ml hf.1).1 t Hc).2 Hd).elim
    .omega
   .intro h;rcases vL (vU h) with h | h
    .exact .inr h
    .rcases hG.pair l i rl r h hl hr with ho | hf
     .exact .inl (eI l ho)
     .exact (((Ml hf.1).1 t Hd).2 Hc).elim
  .rw [hG.run.tm i r hr,Sk,Sl hd,yP Hc,yP Hc];exact hv
 .obtain ⟨j,h1,h2,h3⟩:=hT t;refine⟨j,h1,fun l rl hl Hd=>?_,?_⟩
  .rw [hD,<-h2 l rl hl Hd];constructor
   .rintro (h | h)
    .exact h
    .subst h;rw[hr] at hl;injection hl with hl
     subst hl;exact (Hc Hd).elim
   .exact .inl
  .rw [Sl hd,yz Hc];exact mo hm hS hw _ _ h3
def Yb{tm:Env}{hp an:Hp}{ct aH id off sz nv t:Nat}{ag:Bool}{x y:X}{v v':AV}:∀{l:List (Nat×Bool×Nat)},mq tm id l=ydh->(sz,ag,t)∈l->ay tm x=.ptr id off->
  b8 tm hp ct (.st nv x y)=Ft (v',an,aH)->fL hp sz ag (ak tm t)=Ft v->fL an sz ag (ak tm t)=Ft v
 | [],_,h,_,_,_=>by cases h
 | (s,g,u)::r,h,hm,hx,hw,hv=>by
  simp only[mq,ye] at h;rcases xI.1 hm with e | hm
  .simp only [yj] at e;obtain⟨rfl,rfl,rfl⟩:=e;have h1:=h.1
   split at h1
   .rename_i j o hj;have ek:j≠id:=by
     intro e
     simp_all
    rw[hj] at hv ⊢;simp only[b8,hx] at hw;have key:∀ob,ai (aU hp id ob) j=ai hp j:=fun ob=>by rw[zm,yz (ycO ek)]
    split at hw
    .rename_i pu ex z cs C3;generalize (ym _ _&&yA _ _&&bS _)=bb at hw
     cases bb with
     | false=>cases hw
     | true=>
      obtain⟨_,rfl,_⟩:=hw;simp only[fL,key] at hv ⊢;exact hv
    .cases hw
   .rename_i cs hj;rw[hj] at hv ⊢;simpa only[fL] using hv
   .cases h1
  .exact Yb h.2 hm hx hw hv
def Q0{id j:Nat}(h:j≠id):∀(hp:Hp),ai (cC hp id) j=ai hp j
 | []=>rfl
 | (k,o)::r=>by
  simp only[cC,ai]
  cases h1:ym k id with
  | true=>
   have e:=yf h1;simp only[yq];rw[Q0 h r]
   cases h2:ym k j with
   | true=>exact absurd (yf h2▸e) h
   | false=>rfl
  | false=>
   simp only[yO,ai];rw[Q0 h r]
def ak5{an:Hp}{aH sz nv bb t:Nat}{ag:Bool}{x y:X}{v v':AV}{l:List (Nat×Bool×Nat)}(h:Gu tm (ay tm x) l=ydh)(hm:(sz,ag,t)∈l)(hw:b8 tm hp ct (.cQ nv bb x y)=Ft (v',an,aH))(aM:∀id o,ai hp id=Ft o->id<ct)(hv:fL hp sz ag (ak tm t)=Ft v):fL an sz ag (ak tm t)=Ft v:=by
 have grow:∀{o:Obj},an=(ct,o)::hp->fL an sz ag (ak tm t)=Ft v:=fun {o} e=>by
  subst e;refine SW (fun id o' jv=>⟨o',?_,jw.refl o'⟩) hv
  rw[fo,yz (by have:=aM id o' jv;omega)];exact jv
 simp only[b8] at hw
 cases hs:jh hp nv (ay tm y) with
 | none=>simp[hs] at hw
 | some q=>
  obtain⟨mm,new⟩:=q;simp only[hs] at hw;cases hx:ay tm x<;>rw[hx] at hw h<;>simp only[Gu,yC] at h<;>(try simp only at hw)
  case af=>
   cases hb:ym mm 0 with
   | true=>simp only[hb,yq,yb,yj] at hw;rw[<-hw.2.1];exact hv
   | false=>
    rw[hb] at hw;simp only[yO] at hw;generalize (yA mm room&&(yA (mm*bb) room&&yI 0 nv))=b2 at hw
    cases b2 with
    | false=>cases hw
    | true=>simp only[yq,yb,yj] at hw;exact grow hw.2.1.symm
  case au ex n cs=>
   cases ex with
   | false=>simp at hw
   | true=>
    simp only at hw
    cases hb:ym mm 0 with
    | true=>simp only[hb,yq,yb,yj] at hw;rw[<-hw.2.1];exact hv
    | false=>
     rw[hb] at hw;simp only[yO] at hw;generalize (yA (n+mm) room&&(yA ((n+mm)*bb) room&&(ym cs.length (n*nv)&&yI 0 nv)))=b2 at hw
     cases b2 with
     | false=>cases hw
     | true=>simp only[yq,yb,yj] at hw;exact grow hw.2.1.symm
  case ap id o n=>
   split at hw
   .rename_i pu ex z cs C3;generalize (ym z nv&&_)=b2 at hw
    cases b2 with
    | false=>cases hw
    | true=>
     simp only[yq,yb,yj] at hw;obtain⟨_,rfl,_⟩:=hw;clear C3;have key:∀l,mq tm id l=ydh->(sz,ag,t)∈l->(∃j off,ak tm t=.ptr j off/\j≠id)\/∃cs,ak tm t=.bq cs:=by
      intro l
      induction l with
      | nil=>intro _ hm;cases hm
      | cons e l ih=>
       obtain⟨s,g,u⟩:=e;intro h hm;simp only[mq,ye] at h;rcases xI.1 hm with e | hm
       .simp only [yj] at e;obtain⟨rfl,rfl,rfl⟩:=e;have h1:=h.1
        split at h1
        .rename_i j off hj;refine .inl ⟨j,off,hj,fun e=>?_⟩;subst e;simp at h1
        .rename_i cs hj;exact .inr ⟨cs,hj⟩
        .cases h1
       .exact ih h.2 hm
     rcases key l h hm with ⟨j,off,e,ek⟩ | ⟨df,e⟩
     .rw [e] at hv ⊢;simp only[fL] at hv ⊢;have axy:ai hp j≠Fu:=by
       intro e0;rw[e0] at hv;cases hv
      cases hj:ai hp j with
      | none=>exact absurd hj axy
      | some ob=>
       have:=aM j ob hj
       rw[fo,yz (by omega),Q0 ek,hj];rw[hj] at hv;exact hv
     .rw [e] at hv ⊢;simpa only[fL] using hv
   .cases hw
def X0{D:Nat->Prop}{i c:Nat}{r:aQ}{sz t:Nat}{ag:Bool}(hG:zI O H self ops π rs bd bB bw vF)(hr:rs[i]? =Ft r)(hi:¬D i)(EZ:r.guard=Fu/\r.op=.ld sz ag (.t t))(hc:c<=rs.length)(hW:∀j,j<c->kH rs j->D j)(fJ:∀j,Ord ops (π i) (π j)->¬D j)(aM:∀j,j<=c->∀id o,ai (bB j) id=Ft o->id<bw j):∀k,i+1+k<=c->fL (bB (i+1+k)) sz ag (ak (bd i) t)=Ft (vF i)
 | 0,hk=>by
  have h1:=hG.run.step i r hr;simp only[eU,EZ.1,qJ,EZ.2] at h1;obtain⟨h2,h3,h4⟩:=aag (.inr ⟨_,_,_,rfl⟩) h1;simp only[bf,ay] at h2;rw[yW,h3];exact h2
 | k+1,hk=>by
  have ih:=X0 hG hr hi EZ hc hW fJ aM k (by omega);have hl:i+1+k<rs.length:=by omega
  have hj:rs[i+1+k]? =Ft rs[i+1+k]:=by simp[hl]
  have aT:=hG.run.step _ _ hj;rw[show i+1+(k+1)=i+1+k+1 by omega];rcases uY (kH rs (i+1+k)) with hw | hw
  .have hD:=hW _ (by omega) hw;rcases hG.pair i (i+1+k) r _ (by omega) hr hj with ho | hf
   .exact (fJ _ ho hD).elim
   .obtain ⟨kG,kZ⟩:=hf;obtain⟨cx,h5,h6⟩:=hw;rw[hj] at h5;injection h5 with h5
    subst h5;rcases kZ with kZ | kZ
    .have h1k:bg r.op=1:=by rw[EZ.2];rfl
     simp only[IR,h1k,h6] at kZ;cases kZ
    .unfold I9 at kZ;simp only[EZ.1,EZ.2] at kZ;generalize gZ:(rs[i+1+k]).op=q at kZ;have Ug:Ee t (r::(rs.take (i+1+k)).drop (i+1))=ydh->ak (bd (i+1+k)) t=ak (bd i) t:=by
      intro axz;have lX:=YF axz;rw[show i+1+k=i+(1+k) by omega];refine IU hG.run (1+k) (by omega) (fun l rl g1 g2 Bx=>lX rl ?_);rcases vL g1 with rfl | g1
      .rw [hr] at Bx;injection Bx with Bx;subst Bx;exact wI
      .refine xL _ ?_
       have:((rs.take (i+1+k)).drop (i+1))[l-(i+1)]? =Ft rl:=by
        rw[List.getElem?_drop,List.getElem?_take_of_lt (by omega),show i+1+(l-(i+1))=l by omega];exact Bx
       exact List.mem_of_getElem? this
     unfold eU at aT
     cases hg:qJ (bd (i+1+k)) (rs[i+1+k]).guard with
     | none=>simp[hg] at aT
     | some b=>
      cases b with
      | false=>
       simp only[hg,yb,yj] at aT;rw[<-aT.2.1];exact ih
      | true=>
       simp only[hg,gZ] at aT;cases q<;>simp only[yC] at kZ
       case jF C4 fx xs=>
        simp only[ye] at kZ;have Cx:=MV kZ.1;have Bz:=Ug kZ.2;simp only[aX] at aT
        cases dH:er O.prog O.aI self (bB (i+1+k)) (bw (i+1+k)) .dyn (ay (bd (i+1+k)) fx) (dA (bd (i+1+k)) xs) with
        | none=>simp[dH] at aT
        | some z=>
         obtain⟨v1,aY,pT⟩:=z;simp only[dH] at aT
         cases hs:qh (bd (i+1+k)) (bB (i+1+k)) aY C4 with
         | false=>rw[hs] at aT;cases aT
         | true=>
          rw[hs] at aT;simp only[yq,yb,yj] at aT;obtain⟨_,h8,_⟩:=aT;rw[<-h8,<-Bz];exact QZ hs Cx (by rw[Bz];exact ih)
       case kS C4 nv x v=>
        simp only[ye] at kZ;have Cx:=MV kZ.1;have Bz:=Ug kZ.2;simp only[aX] at aT
        split at aT
        .rename_i id off hx
         cases hs:mq (bd (i+1+k)) id C4 with
         | false=>rw[hs] at aT;cases aT
         | true=>
          rw[hs] at aT;simp only[yq] at aT;rw[<-Bz];exact Yb hs Cx hx aT (by rw[Bz];exact ih)
        .cases aT
       case lV C4 nv b x v=>
        simp only[ye] at kZ;have Cx:=MV kZ.1;have Bz:=Ug kZ.2;simp only[aX] at aT
        cases dH:b8 (bd (i+1+k)) (bB (i+1+k)) (bw (i+1+k)) (.cQ nv b x v) with
        | none=>simp[dH] at aT
        | some z=>
         obtain⟨v1,aY,pT⟩:=z;simp only[dH] at aT
         cases hs:(Gu (bd (i+1+k)) (ay (bd (i+1+k)) x) C4||qh (bd (i+1+k)) (bB (i+1+k)) aY C4) with
         | false=>rw[hs] at aT;cases aT
         | true=>
          rw[hs] at aT;simp only[yq,yb,yj] at aT;obtain⟨_,h8,_⟩:=aT;rw[<-h8,<-Bz];rcases (uF _ _).mp hs with hs | hs
          .exact ak5 hs Cx dH (aM _ (by omega)) (by rw[Bz];exact ih)
          .exact QZ hs Cx (by rw[Bz];exact ih)
  .exact SW (Zu (Jc hj hw) aT (aM _ (by omega))).le ih
structure Inv(O:bl)(ops:Array yT)(rs:List aQ)(bd:Nat->Env)(bB:Nat->Hp)(bw:Nat->Nat)(D:Nat->Prop)(m0:Mp)(S0:Nat->Prop)(w0:yi)(n0:Nat)(d0:List yas)(st c:Nat)(m:Mp)(S:Nat->Prop)(w:yi)(a:Act):Prop where
 Ws:st<=c
 cn:c<=rs.length
 before:∀i,i<st->kH rs i->D i
 He:∀i,st<=i->i<c->¬kH rs i
 cut:c=rs.length\/(kH rs c/\¬D c)
 behind:∀(i:Nat) (r:aQ),c<=i->rs[i]? =Ft r->1<=bg r.op->¬D i
 hp:aR O m S w (bB c) (bw c)
 Wt:∀id p,m id=Ft p->id<bw st\/∃i,st<=i/\i<c/\D i/\bw i<=id/\id<bw (i+1)
 tm:P0 O rs bd D m S w a
 P1:bU m0 S0 w0 (bB 0) m S w (bB c) (bw 0)
 ge:bw 0<=bw c
 size:a.tmps.size=n0
 defers:a.defers=d0
 C5:st=0\/kH rs (st-1)
 Hf:∀j,j<=c->∀id o,ai (bB j) id=Ft o->id<bw j
end
end
end
section
open Go
section
variable {O:bl}{H:Hint}{ops:Array yT}{π:Nat->Nat}{rs:List aQ}{bd:Nat->Env}{bB:Nat->Hp}{bw:Nat->Nat}{vF:Nat->AV}{self:cd}{ro:Option Nat}{Q:uC->Act->yi->Prop}
variable {D D':Nat->Prop}{m0:Mp}{S0:Nat->Prop}{w0:yi}{n0:Nat}{d0:List yas}{st c i:Nat}{m:Mp}{S:Nat->Prop}{w:yi}{a:Act}{r:aQ}{o:yT}
def MX(hG:zI O H self ops π rs bd bB bw vF)(hI:Inv O ops rs bd bB bw D m0 S0 w0 n0 d0 st c m S w a){x y:Nat}(hx:st<=x)(hxy:x<=y)(hy:y<=c):jj (bB x) (bw x) (bB y) (bw y):=by
 obtain⟨k,rfl⟩:∃k,y=x+k:=⟨y-x,by omega⟩
 have:=hI.cn
 exact MW hG.run (hI.Hf x (by omega)) k (by omega) (fun j r h1 h2 hr=>Jc hr (hI.He j (by omega) (by omega)))
def Ng(hG:zI O H self ops π rs bd bB bw vF)(hI:Inv O ops rs bd bB bw D m0 S0 w0 n0 d0 st c m S w a)(hr:rs[i]? =Ft r)(hi:¬D i)(eI:∀j,Ord ops (π j) (π i)->D j)(fJ:∀j,Ord ops (π i) (π j)->¬D j)(hD:∀j,D' j↔D j\/j=i)(hd:∀d,r.dst=Ft d->d<a.tmps.size)(hw:¬kH rs i)(Bv:bg r.op=0\/i<c){m':Mp}{S':Nat->Prop}{w':yi}{u:yg}(k1:aR O m' S' w' (bB c) (bw c))(k2:cY m m')(k3:∀id p,m' id=Ft p->m id=Ft p\/(st<=i/\i<c/\bw i<=id/\id<bw (i+1)))(k4:ae O.ab m' S' w' (vF i) u)(k5:bU m S w (bB c) m' S' w' (bB c) (bw c)):
  Inv O ops rs bd bB bw D' m0 S0 w0 n0 d0 st c m' S' w' (a.put r.dst u) where
 Ws:=hI.Ws
 cn:=hI.cn
 before j hj E0:=(hD j).2 (.inl (hI.before j hj E0))
 He:=hI.He
 cut:=hI.cut.imp (fun h=>h) (fun h=>⟨h.1,fun hc=>((hD c).1 hc).elim h.2 (fun e=>hw (e▸h.1))⟩)
 behind j rj hj E1 hk E2:=((hD j).1 E2).elim (hI.behind j rj hj E1 hk) (fun e=>by
  subst e;rw[hr] at E1;injection E1 with E1
  subst E1
  rcases Bv with h | h<;>omega)
 hp:=k1
 Wt id p hp:=by
  rcases k3 id p hp with h | ⟨h1,h2,h3,h4⟩
  .rcases hI.Wt id p h with h | ⟨j,g1,g2,g3,g4,g5⟩
   .exact .inl h
   .exact .inr ⟨j,g1,g2,(hD j).2 (.inl g3),g4,g5⟩
  .exact .inr ⟨i,h1,h2,(hD i).2 (.inr rfl),h3,h4⟩
 tm:=abC hG hI.tm hr hi eI fJ hD k2 k5.sub (fun b hb=>k5.still b hb) hd k4
 P1:=hI.P1.trans (k5.zO hI.ge)
 ge:=hI.ge
 size:=by rw[Nc];exact hI.size
 defers:=by rw[Rl];exact hI.defers
 C5:=hI.C5
 Hf:=hI.Hf
def abD(hG:zI O H self ops π rs bd bB bw vF)(hI:Inv O ops rs bd bB bw D m0 S0 w0 n0 d0 st c m S w a)(hr:rs[c]? =Ft r)(hi:¬D c)(eI:∀j,Ord ops (π j) (π c)->D j)(fJ:∀j,Ord ops (π c) (π j)->¬D j)(hD:∀j,D' j↔D j\/j=c)(hd:∀d,r.dst=Ft d->d<a.tmps.size)(hw:kH rs c){m':Mp}{S':Nat->Prop}{w':yi}{u:yg}(k1:aR O m' S' w' (bB (c+1)) (bw (c+1)))(k2:bw c<=bw (c+1))(k4:ae O.ab m' S' w' (vF c) u)(k5:bU m S w (bB c) m' S' w' (bB (c+1)) (bw c)):
  ∃c' CT,Inv O ops rs bd bB bw D' m0 S0 w0 n0 d0 (c+1) c' m' CT w' (a.put r.dst u):=by
 have dH:c<rs.length:=(xG.1 hr).1;obtain⟨c',h1,h2,h3,h4⟩:=TB rs (rs.length-(c+1)) (c+1) (by omega);obtain⟨k,rfl⟩:∃k,c'=c+1+k:=⟨c'-(c+1),by omega⟩;have hg:∀k',k'<=k->jj (bB (c+1)) (bw (c+1)) (bB (c+1+k')) (bw (c+1+k')):=fun k' Bs=>
  MW hG.run k1.aM k' (by omega) (fun j r g1 g2 hr=>Jc hr (h3 j g1 (by omega)))
 obtain⟨CT,g1,g2,g3,g4⟩:=Nb k1 (hg k (yu _));have P2:cY m m':=fun id p h=>k5.old id p (hI.hp.lt id p h) h
 refine⟨c+1+k,CT,⟨by omega,h2,?_,h3,?_,?_,g1,fun id p h=>.inl (k1.lt id p h),?_,?_,?_,by rw[Nc];exact hI.size,by rw[Rl];exact hI.defers,.inr (by simpa using hw),?_⟩⟩
 .intro j hj E0;rcases vL (vU hj) with e | hj
  .exact (hD j).2 (.inr e)
  .rcases vK j st with g | g
   .exact (hD j).2 (.inl (hI.before j g E0))
   .exact (hI.He j g hj E0).elim
 .refine h4.imp (fun h=>h) (fun h=>⟨h,fun hc=>?_⟩);obtain⟨rc,Wu,Bv⟩:=h;rcases (hD _).1 hc with g | g
  .exact hI.behind _ rc (by omega) Wu (by omega) g
  .omega
 .intro j rj hj E1 hk E2;rcases (hD j).1 E2 with g | g
  .exact hI.behind j rj (by omega) E1 hk g
  .omega
 .exact abC hG hI.tm hr hi eI fJ hD P2 (fun b hb=>g2 b (k5.sub b hb)) (fun b hb=>k5.still b hb) hd (mo (fun _ _ h=>h) g2 (fun _ _=>rfl) _ _ k4)
 .exact (hI.P1.trans (k5.zO hI.ge)).trans (g4 (bw 0))
 .have:=(hg k (yu _)).rq
  have:=hI.ge
  omega
 .intro j hj;rcases vK c j with g | g
  .obtain ⟨k',rfl⟩:∃k',j=c+1+k':=⟨j-(c+1),by omega⟩;exact (hg k' (by omega)).lt
  .exact hI.Hf j g
def am0{q:Op}(h:bg q≠2):jH q=q:=by
 cases q<;>first
  | rfl
  | exact absurd rfl h
def YG{x y:aQ}{l:List aQ}(h:Ew x y l):¬(bg x.op=2/\1<=bg y.op)/\(1<=bg x.op->bg y.op=2->x.guard=Fu/\∃sz ag t,x.op=.ld sz ag (.t t)):=by
 have⟨_,h⟩:=h;have ex:I9 x y l=ydh->x.guard=Fu/\∃sz ag t,x.op=.ld sz ag (.t t):=by
  intro he;unfold I9 at he
  split at he
  .rename_i sz ag t C4 fx xs h1 h2 h3;exact⟨h1,sz,ag,t,h2⟩
  .rename_i h1 h2 h3;exact⟨h1,_,_,_,h2⟩
  .rename_i h1 h2 h3;exact⟨h1,_,_,_,h2⟩
  .cases he
 have k2:∀q:Op,bg q<=2:=fun q=>by
  cases q with
  | oz k x lo hi=>cases k<;>simp[bg]
  | len k x=>rcases k with _ | _ | k<;>simp[bg]
  | call md f xs=>cases md<;>simp[bg]
  | _=>simp[bg]
 constructor
 .rintro ⟨h1,h2⟩;rcases h with h | h
  .have:bg y.op=1\/bg y.op=2:=by have:=k2 y.op;lia
   rcases this with e | e<;>(simp only[IR,h1,e] at h;cases h)
  .have ⟨_,sz,ag,t,e⟩:=ex h;rw[e] at h1;cases h1
 .intro h1 h2;rcases h with h | h
  .have:bg x.op=1\/bg x.op=2:=by have:=k2 x.op;lia
   rcases this with e | e<;>(simp only[IR,h2,e] at h;cases h)
  .exact ex h
def am1(hC:oV O self)(hH:eX O H)(hG:zI O H self ops π rs bd bB bw vF)(hn:H.n<=n0)(hI:Inv O ops rs bd bB bw D m0 S0 w0 n0 d0 st c m S w a)(hr:rs[i]? =Ft r)(ho:ops[π i]? =Ft o)(hi:¬D i)(eI:∀j,Ord ops (π j) (π i)->D j)(fJ:∀j,Ord ops (π i) (π j)->¬D j)(hD:∀j,D' j↔D j\/j=i){K:Act->yi->Prop}(hK:∀st' c' m' S' w' a',Inv O ops rs bd bB bw D' m0 S0 w0 n0 d0 st' c' m' S' w' a'->K a' w'):wpOpIn (WF ro) 0 O.P ops Q (π i) K a w:=by
 have cO:=hG.of i r o hr ho;have UT:=aoZ hG hI.tm hr hi eI fJ;have aT:=hG.run.step i r hr;have hd:∀d,r.dst=Ft d->d<a.tmps.size:=by
  rw[cO.dst];exact aaf cO.ok (by rw[hI.size];exact hn)
 have jO:=hI.Ws;have kF:1<=bg r.op->i<=c:=by
  intro hk;rcases vK c i with Hg | Hg
  .have By:i<rs.length:=(xG.1 hr).1;rcases hI.cut with h | ⟨⟨rc,Wu,Bv⟩,Ll⟩
   .omega
   .rcases hG.pair c i rc r Hg Wu hr with h | h
    .exact (Ll (eI c h)).elim
    .exact ((YG h).1 ⟨Bv,hk⟩).elim
  .exact Hg
 have hwc:kH rs i->i=c:=by
  intro hw;obtain⟨cx,h1,h2⟩:=hw;rw[hr] at h1;injection h1 with h1
  subst h1;have h3:=kF (by omega);rcases vL h3 with e | h3
  .exact e
  .rcases vK i st with g | g
   .exact (hi (hI.before i g ⟨r,hr,h2⟩)).elim
   .exact (hI.He i g h3 ⟨r,hr,h2⟩).elim
 have aM:1<=bg r.op->¬kH rs i->i<c:=by
  intro hk hw;rcases vL (kF hk) with e | h
  .subst e;rcases hI.cut with h | h
   .have By:i<rs.length:=(xG.1 hr).1;omega
   .exact (hw h.1).elim
  .exact h
 have Bv:¬kH rs i->bg r.op=0\/i<c:=fun hw=>by
  rcases xq (bg r.op) with h | h
  .exact .inl h
  .exact .inr (aM h hw)
 unfold wpOpIn;simp only[ho];unfold eU at aT
 cases P3:qJ (bd i) r.guard with
 | none=>simp[P3] at aT
 | some b=>
  have Wq:=Zr cO.guard (fun t ht=>UT t (by simp[DS,ht])) P3;rw[Wq]
  cases b with
  | false=>
   simp only[P3,yb,yj] at aT;obtain⟨hv,hh,hc⟩:=aT;simp only[yC,xy];refine⟨fun _ _=>trivial,?_⟩;have dJ:∀m S w,ae O.ab m S w (vF i) undef:=fun m S w=>by rw[<-hv];simp[ae,az,undef]
   rw[<-cO.dst];rcases uY (kH rs i) with hw | hw
   .have e:=hwc hw;subst e;obtain⟨c',CT,h⟩:=abD hG hI hr hi eI fJ hD hd hw (m':=m) (S':=S) (w':=w) (u:=undef) (by rw[<-hh,<-hc];exact hI.hp) (by omega) (dJ _ _ _) (by rw[<-hh];exact bU.refl)
    exact hK _ _ _ _ _ _ h
   .exact hK _ _ _ _ _ _ (Ng hG hI hr hi eI fJ hD hd hw (Bv hw) (m':=m) (S':=S) (w':=w) (u:=undef) hI.hp cY.refl (fun _ _ h=>.inl h) (dJ _ _ _) bU.refl)
  | true=>
   simp only[P3] at aT;simp only[xQ];have lX:=Ya cO.op aT;have Lu:bO O m S w (bE (bd i) (kv r.op)) a.tmps:=fun t=>by
    rcases uY (t∈kv r.op) with h | h
    .rw [Nf h];exact UT t (by simp[DS,h])
    .have:ak (bE (bd i) (kv r.op)) t=.undef:=by
      clear UT aT;revert h;generalize kv r.op=l;intro h
      induction l with
      | nil=>rfl
      | cons x l ih=>
       simp only[bE,ak];have hx:ym x t=ydi:=by
        cases hq:ym x t with
        | false=>rfl
        | true=>exact absurd (by rw[yf hq];exact wI) h
       rw[hx];exact ih (fun h'=>h (xL _ h'))
     rw[this];simp only[ae]
   have C6:aX O.prog O.aI self (bE (bd i) (kv r.op)) (bB i) (bw i) (jH r.op)=Ft (vF i,bB (i+1),bw (i+1)):=
    ak4 (fun t ht=>Nf ht) aT
   have acr:¬kH rs i->jH r.op=r.op:=fun hw=>am0 (fun h=>hw ⟨r,hr,h⟩)
   have now:¬kH rs i->bf (bE (bd i) (kv r.op)) (bB c) r.op=Ft (vF i)->Oper.wpIn (WF ro) 0 O.P o a w K Q:=by
    intro hw fS;by_cases C1:∃n sz z ps,r.op=.pL n sz z ps
    .obtain ⟨n,sz,z,ps,C1⟩:=C1;have sM:bg r.op=0:=by rw[C1];rfl
     have axA:aX O.prog O.aI self (bE (bd i) (kv r.op)) (bB c) (bw c) r.op=Ft (vF i,bB c,bw c):=by
      rw[C1] at fS ⊢;simp only[aX,fS]
     refine quiet_step (Hq:=bB c) (cH:=bw c) hC hH (by omega) cO.op lX axA cJ.refl (yu _) hI.hp.aM (fun id h1 h2=>by omega) Lu hI.hp (fun u m' S' w' k1 k2 k3 k4 k5=>?_);rw[<-cO.dst];exact hK _ _ _ _ _ _ (Ng hG hI hr hi eI fJ hD hd hw (.inl sM) k1 k2 (fun id p h=>.inl ((k3 id p h).resolve_right (by omega))) k4 k5)
    have gZ:∃k,r.op=aP O.P H k o:=by
     rcases cO.op with h | ⟨cc,f,rr,_,_,h⟩ | ⟨_,_,_,_,_,_,_,h⟩ | ⟨_,_,_,_,_,_,_,h⟩ | ⟨_,_,_,_,_,_,h⟩ | ⟨_,_,_,_,_,_,h⟩
     .exact h
     .rw [h] at fS;simp[bf] at fS
     .rw [h] at fS;simp[bf] at fS
     .rw [h] at fS;simp[bf] at fS
     .rw [h] at fS;simp[bf] at fS
     .exact (C1 ⟨_,_,_,_,h⟩).elim
    obtain⟨k,hk⟩:=gZ;rw[hk] at fS;rw[hk] at Lu;obtain⟨u,h1,h2⟩:=abm hH Lu hI.hp fS;refine F1 lX h1 (.inl rfl) ?_;rw[<-cO.dst];exact hK _ _ _ _ _ _ (Ng hG hI hr hi eI fJ hD hd hw (Bv hw) hI.hp cY.refl (fun _ _ h=>.inl h) h2 bU.refl)
   rcases uY (kH rs i) with hw | hw
   .have e:=hwc hw;subst e;refine aae hC hH (aj4 cO.op) lX C6 Lu hI.hp (fun u m' S' w' k1 k2 k3 k4=>?_);rw[<-cO.dst];obtain⟨c',CT,h⟩:=abD hG hI hr hi eI fJ hD hd hw k1 k2 k3 k4;exact hK _ _ _ _ _ _ h
   .rcases xq (bg r.op) with hk | hk
    .have C6:=acr hw▸C6;obtain⟨h1,_,_⟩:=aag (.inl hk) C6;exact now hw (by rw[akV hk (bB c) (bB i)];exact h1)
    .have G8:=aM hk hw;rcases vK i st with UU | UU
     .
      rcases hI.C5 with h0 | h0
      .omega
      .have aY:D (st-1):=hI.before _ (by omega) h0;have ek:i≠st-1:=fun e=>hi (e▸aY)
       obtain⟨rp,hrp,sT⟩:=h0;rcases hG.pair i (st-1) r rp (by omega) hr hrp with h | h
       .exact (fJ _ h aY).elim
       .obtain ⟨hg,sz,ag,t,gZ⟩:=(YG h).2 hk sT;have hl:=X0 (c:=c) hG hr hi ⟨hg,gZ⟩ hI.cn (fun j hj E0=>by
         rcases vK j st with g | g
         .exact hI.before j g E0
         .exact (hI.He j g hj E0).elim) fJ hI.Hf (c-(i+1)) (by omega)
        rw[show i+1+(c-(i+1))=c by omega] at hl;refine now hw ?_;rw[gZ];simp only[bf,ay];rw[Nf (by simp[kv,jG])];exact hl
     .have kY:=MX hG hI (x:=i+1) (y:=c) (by omega) G8 (yu _);have Lv:=MX hG hI (x:=st) (y:=i) (yu _) UU (by omega)
      refine quiet_step (Hq:=bB c) (cH:=bw c) hC hH (Jc hr hw) cO.op lX (acr hw▸C6) kY.le kY.rq (hI.Hf i (by omega)) ?_ Lu hI.hp (fun u m' S' w' k1 k2 k3 k4 k5=>?_)
      .intro id h1 h2
       cases hm:m id with
       | none=>rfl
       | some p=>
        rcases hI.Wt id p hm with h | ⟨j,q1,q2,q3,q4,q5⟩
        .have:=Lv.rq;omega
        .rcases Nat.lt_trichotomy j i with g | g | g
         .have:=(MX hG hI (x:=j+1) (y:=i) (by omega) g (by omega)).rq;omega
         .subst g;exact (hi q3).elim
         .have:=(MX hG hI (x:=i+1) (y:=j) (by omega) g (by omega)).rq;omega
      .rw [<-cO.dst];exact hK _ _ _ _ _ _ (Ng hG hI hr hi eI fJ hD hd hw (.inr G8) k1 k2 (fun id p h=>(k3 id p h).imp (fun h=>h) (fun h=>⟨UU,G8,h.1,h.2⟩)) k4 k5)
def left(n:Nat)(listed:Array Bool):Nat:=(List.range n).countP fun i=> !listed.getD i ydi
def am2{n:Nat}{listed:Array Bool}{i:Nat}(hi:i<n)(hs:listed.size=n)(hl:listed.getD i ydh=ydi):left n (listed.setIfInBounds i ydh)+1=left n listed:=by
 have key:∀(l:List Nat),l.Nodup->(i∈l->(l.countP fun j=> !(listed.setIfInBounds i ydh).getD j ydi)+1=l.countP fun j=> !listed.getD j ydi)/\(i∉l->(l.countP fun j=> !(listed.setIfInBounds i ydh).getD j ydi)=l.countP fun j=> !listed.getD j ydi):=by
  intro l
  induction l with
  | nil=>intro _;exact⟨fun h=>(by cases h),fun _=>rfl⟩
  | cons x l ih=>
   intro lX;have hx:x≠i->(listed.setIfInBounds i ydh).getD x ydi=listed.getD x ydi:=fun h=>getD_set_ne ydi (ycO h)
   refine⟨fun hm=>?_,fun hm=>?_⟩
   .rw [ybB,ybB];by_cases e:x=i
    .simp_all
    .grind
   .grind
 exact (key _ List.nodup_range).1 (wL.2 hi)
def ak6{n:Nat}{listed:Array Bool}(h:left n listed=0):∀i,i<n->listed.getD i ydi=ydh:=by
 unfold left at h
 simp_all
def ak7{listed:Array Bool}(hs:listed.size=ops.size)(hb:∀(i:Nat) (o:yT),ops[i]? =Ft o->∀e,e∈o.after->Region.binds .any e=ydh->e.on<i)(h:Region.ready .any ops listed=[]):∀i,i<ops.size->listed.getD i ydi=ydh:=by
 intro i
 induction i using vP with
 | _ i ih=>
  intro hi
  cases hq:listed.getD i ydi with
  | true=>rfl
  | false=>
   have:i∈Region.ready .any ops listed:=by
    refine mem_ready.2 ⟨?_,ops[i],by simp[hi],fun e he sR=>?_⟩
    .have aM:i<listed.size:=by lia
     simp only[wv,aM,uQ,xF] at hq ⊢;exact hq
    .have:=hb i ops[i] (by simp[hi]) e he sR
     exact ih e.on this (by lia)
   rw[h] at this;cases this
def ao0(hG:zI O H self ops π rs bd bB bw vF)(hI:Inv O ops rs bd bB bw D m0 S0 w0 n0 d0 st c m S w a)(jZ:∀i,i<rs.length->D i):
  aR O m S w (bB rs.length) (bw rs.length)/\bO O m S w (bd rs.length) a.tmps/\bU m0 S0 w0 (bB 0) m S w (bB rs.length) (bw 0)/\bw 0<=bw rs.length:=by
 have hc:c=rs.length:=by
  rcases hI.cut with h | ⟨⟨r,h1,_⟩,h2⟩
  .exact h
  .exact (h2 (jZ c (xG.1 h1).1)).elim
 subst hc;refine⟨hI.hp,fun t=>?_,hI.P1,hI.ge⟩;obtain⟨j,h1,h2,h3⟩:=hI.tm t;obtain⟨k,hk⟩:∃k,rs.length=j+k:=⟨rs.length-j,by omega⟩
 have:=IU (t:=t) (i:=j) hG.run k (by omega) (fun l r g1 g2 hl hd=>by
  have:=(h2 l r hl hd).1 (jZ l (xG.1 hl).1)
  omega)
 rw[<-hk] at this;rw[this];exact h3
structure Jo(n:Nat)(π:Nat->Nat):Prop where
 inj:∀i j,π i=π j->i=j
 sur:∀x,x<n->∃i,i<n/\π i=x
 lt:∀i,i<n->π i<n
def arS(hC:oV O self)(hH:eX O H)(hG:zI O H self ops π rs bd bB bw vF)(hπ:Jo ops.size π)(hn:H.n<=n0)(hQ:∀a' m' S' w',aR O m' S' w' (bB rs.length) (bw rs.length)->bw 0<=bw rs.length->bO O m' S' w' (bd rs.length) a'.tmps->bU m0 S0 w0 (bB 0) m' S' w' (bB rs.length) (bw 0)->a'.tmps.size=n0->a'.defers=d0->Q .normal a' w'):
  ∀(bi:Nat) (listed:Array Bool) (st c:Nat) (m:Mp) (S:Nat->Prop) (w:yi) (a:Act),listed.size=ops.size->left ops.size listed=bi->TA ops (fun i=>listed.getD i ydi=ydh)->
   Inv O ops rs bd bB bw (fun i=>listed.getD (π i) ydi=ydh) m0 S0 w0 n0 d0 st c m S w a->wpAnyIn (WF ro) 0 O.P .any ops Q bi listed a w:=by
 have fin:∀(listed:Array Bool) (st c:Nat) (m:Mp) (S:Nat->Prop) (w:yi) (a:Act),Inv O ops rs bd bB bw (fun i=>listed.getD (π i) ydi=ydh) m0 S0 w0 n0 d0 st c m S w a->(∀i,i<ops.size->listed.getD i ydi=ydh)->Q .normal a w:=by
  intro listed st c m S w a hI jZ;obtain⟨h1,h2,h3,h4⟩:=ao0 hG hI (fun i hi=>jZ _ (hπ.lt i (by rw[<-hG.len];exact hi)))
  exact hQ a m S w h1 h4 h2 h3 hI.size hI.defers
 intro bi
 induction bi with
 | zero=>
  intro listed st c m S w a hs hl hc hI;have jZ:=ak6 hl;refine⟨?_,fin listed st c m S w a hI jZ⟩;rw[List.eq_nil_iff_forall_not_mem];intro i hm;obtain⟨h1,o,ho,_⟩:=mem_ready.1 hm;have hi:=(xt.1 ho).1
  have:=jZ i hi
  have aM:i<listed.size:=by omega
  simp only[wv,aM,uQ,xF] at h1 this;rw[this] at h1;cases h1
 | succ bi ih=>
  intro listed st c m S w a hs hl hc hI;refine⟨fun h=>fin listed st c m S w a hI (ak7 hs hG.back h),fun x hm=>?_⟩;obtain⟨h1,o,ho,h2⟩:=mem_ready.1 hm;have hx:x<ops.size:=(xt.1 ho).1;obtain⟨i,hi,rfl⟩:=hπ.sur x hx;have hr:rs[i]? =Ft (rs[i]'(by rw[hG.len];exact hi)):=by simp[hG.len,hi]
  have aM:π i<listed.size:=by omega
  have hni:¬listed.getD (π i) ydi=ydh:=by
   simp only[wv,aM,uQ,xF] at h1 ⊢;rw[h1];simp
  have Wv:∀y,(listed.setIfInBounds (π i) ydh).getD y ydi=ydh↔listed.getD y ydi=ydh\/y=π i:=by
   intro y;by_cases e:y=π i
   .subst e;simp[aM]
   .rw [getD_set_ne ydi (ycO e)];simp[e]
  have hD:∀j,(listed.setIfInBounds (π i) ydh).getD (π j) ydi=ydh↔listed.getD (π j) ydi=ydh\/j=i:=by
   intro j;rw[Wv];exact or_congr Iff.rfl ⟨fun e=>hπ.inj _ _ e,fun e=>by rw[e]⟩
  refine am1 (D:=fun i=>listed.getD (π i) ydi=ydh) hC hH hG hn hI hr ho hni (fun j hj=>Zt hc (π i) o ho h2 (π j) hj) (fun j hj E2=>?_) hD (fun st' c' m' S' w' a' hI'=>ih (listed.setIfInBounds (π i) ydh) st' c' m' S' w' a' (by simp[hs]) ?_ ?_ hI')
  .have hjl:π j<ops.size:=by
    rcases vK (π j) ops.size with h | h
    .exact h
    .rw [wv,yaL (by omega)] at E2;simp at E2
   exact hni (amZ hc (show ops[π j]? =Ft ops[π j] by simp[hjl]) E2 hj)
  .have:=am2 hx hs h1
   omega
  .intro j oj Lw hj e he hb;rw[Wv];rcases (Wv j).1 hj with g | g
   .exact .inl (hc j oj Lw g e he hb)
   .subst g;rw[ho] at Lw;injection Lw with Lw
    subst Lw;exact .inl (h2 e he hb)
end
end
section
open Go
section
variable {pm:List Nat}{n:Nat}{P:xm}{s s':St}
def aj6{F:Fence}{Q:uC->Act->yi->Prop}{a:Act}{w:yi}{c:vz}(h:c.wpIn F n P Q a w)(hg:∀l a w,¬Q (.goto l) a w):(Code.scope c).wpIn F n P Q a w:=by
 intro b k cs cO hb hr;have h0:(lone (b.atR a (.code (.scope c)::k)) cs w).fenced P F:=fenced_calm hb hr rfl;have s0:step P (lone (b.atR a (.code (.scope c)::k)) cs w)=.next (lone (b.atR a (.code c:: .inScope c::k)) cs w):=step_lone_go (by simp[stepG,stepG.exec,Frame.atR]);have⟨e,a₁,w₁,hq,Eu⟩:=h b (.inScope c::k) cs cO hb hr;have hx:∀id,exitTo id (.inScope c::k)=exitTo id k:=fun id=>by simp[exitTo]
 cases e with
 | normal=>
  have s1:step P (lone (b.atR a₁ (.inScope c::k)) cs w₁)=.next (lone (b.atR a₁ k) cs w₁):=step_lone_go (by simp[stepG,stepG.exec,Frame.atR]);exact⟨.normal,a₁,w₁,hq,.head h0 s0 (StepsIn.trans Eu (.one (fenced_calm hb hr rfl) s1))⟩
 | exit id=>
  exact⟨.exit id,a₁,w₁,hq,fun k' hk=>.head h0 s0 (Eu.1 k' (by rw[hx];exact hk)),fun bA hk=>let ⟨k₁,h1,h2⟩:=Eu.2 bA (by rw[hx];exact hk);⟨k₁,h1,.head h0 s0 h2⟩⟩
 | goto l=>exact (hg _ _ _ hq).elim
 | ret=>exact⟨_,a₁,w₁,hq,.of_steps (.one h0 s0) Eu⟩
 | panic ch=>exact⟨_,a₁,w₁,hq,.of_steps (.one h0 s0) Eu⟩
 | outgrown=>exact⟨_,a₁,w₁,hq,.of_steps (.one h0 s0) Eu⟩
def sj:Ex->uC
 | .normal=>.normal
 | .ret=>.ret
 | .exit id=>.exit id
def Marks(lo:Nat)(S:Nat->Prop)(w:yi)(ds:List yas):Prop:=∃rs:List Nat,ds=rs.map (fun r=>{target:=.collected r,args:=#[]})/\rs.Nodup/\
 ∀r,r∈rs->w.heap[r]? =Ft (.deferred (Ft []))/\¬S r/\lo<=r
def AM(ro:Option Nat)(w:yi):Prop:=∀l,ro=Ft l->∃r:uV,w.heap[l]? =Ft (.loop r)
section
variable {O:bl}{m:Mp}{S:Nat->Prop}{w:yi}{hp:Hp}{ct:Nat}
def aah(hh:aR O m S w hp ct){b:Nat}(h:dV m hp b):∀x,w.heap[b]?≠Ft (.deferred x):=by
 intro x hx;obtain⟨id,o,p,h1,h2,rfl⟩:=h;have h3:=hh.obj id o p h1 h2
 cases o with
 | cells rw pu ex sz cs=>have⟨q,arr,t,g1,g2,_⟩:=h3;rw[h2] at g1;injection g1 with g1;subst g1;rw[hx] at g2;cases g2
 | mp rw ks vs=>have⟨q,es,clock,g1,g2,_⟩:=h3;rw[h2] at g1;injection g1 with g1;subst g1;rw[hx] at g2;cases g2
 | si s pos=>have⟨q,t,g1,g2,_⟩:=h3;rw[h2] at g1;injection g1 with g1;subst g1;rw[hx] at g2;cases g2
 | lp tm ps as_ body st pe=>have⟨q,l,hi,g1,g2,_⟩:=h3;rw[h2] at g1;injection g1 with g1;subst g1;rw[hx] at g2;cases g2
def BR(hh:aR O m S w hp ct){m':Mp}{S':Nat->Prop}{w':yi}{an:Hp}{base lo:Nat}(hf:bU m S w hp m' S' w' an base){ds:List yas}(h:Marks lo S w ds):Marks lo S' w' ds:=by
 have⟨rs,h1,h2,h3⟩:=h;refine⟨rs,h1,h2,fun r hr=>?_⟩;have⟨this,h4,h5⟩:=h3 r hr;have aM:=(xt.1 this).1;have pR:¬dV m hp r:=fun ho=>aah hh ho _ this
 refine⟨(hf.same r aM pR).trans this,fun hs=>?_,h5⟩;rcases hf.new r hs with h | h | h
 .grind
 .grind
 .lia
def MY{m':Mp}{S':Nat->Prop}{w':yi}{an:Hp}{base:Nat}{ro:Option Nat}(hf:bU m S w hp m' S' w' an base)(h:AM ro w):AM ro w':=fun l hl=>
 let ⟨r,hr⟩:=h l hl
 hf.loops l r hr
def eM(O:bl)(m:Mp)(S:Nat->Prop)(w:yi)(s:St)(ex:Ex)(s':St)(n lo:Nat)(e:uC)(a':Act)(w':yi):Prop:=
 e=sj ex/\∃m' S',bO O m' S' w' s'.tm a'.tmps/\aR O m' S' w' s'.hp s'.ct/\s'.base=s.base/\s.base<=s'.ct/\bU m S w s.hp m' S' w' s'.hp s.base/\a'.tmps.size=n/\Marks lo S' w' a'.defers
def Cp(O:bl)(h:Nat)(c:vz)(s:St)(ex:Ex)(s':St):Prop:=
 ∀(ro:Option Nat) (lo:Nat) (m:Mp) (S:Nat->Prop) (w:yi) (a:Act),AM ro w->bO O m S w s.tm a.tmps->aR O m S w s.hp s.ct->s.base<=s.ct->(O.hint h).n<=a.tmps.size->O.w0.heap.size<=lo->lo<=w.heap.size->Marks lo S w a.defers->
  c.wpIn (WF ro) 0 O.P (eM O m S w s ex s' a.tmps.size lo) a w
structure iw(O:bl):Prop where
 hint:∀h,eX O (O.hint h)
 mixed:O.P.follows .mixedOrders=ydh
 prog:∀n F,O.prog n=Ft F->∃fn,O.P.funcs[O.ab n]? =Ft fn/\FY O.P (O.hint n) fn=Ft F/\fn.name≠ "runtime.NumGoroutine"
 aI:∀n sp aq r,O.aI.pure n=Ft sp->sp aq=Ft r->dZ O n aq r
 Gw:∀n sp hp ct aq v an aH,O.aI.heap n=Ft sp->sp hp ct aq=Ft (v,an,aH)->Co O n hp ct aq v an aH
def FE{P:xm}{H:Hint}{ops:Array yT}:∀(rs:List aQ) (l:List yT) (done:List aQ) (ms:List Nat),eH P H ops rs l->eH P H ops (kO done rs ms) l
 | [],l,done,ms,h=>by
  cases ms<;>simpa only[kO] using h
 | r::rs,[],done,ms,h=>by simp[eH] at h
 | r::rs,o::l,done,[],h=>by
  have⟨d,g,op⟩:=r;cases op<;>simpa only[kO] using h
 | r::rs,o::l,done,m::ms,h=>by
  simp only[eH] at h;have⟨h1,h2⟩:=h;have⟨d,g,op⟩:=r
  cases op with
  | jF C4 f xs=>
   simp only[kO,eH];refine⟨?_,FE rs l _ ms h2⟩;rcases h1 with h1 | ⟨_,h1⟩
   .refine .inl ⟨?_,h1.dst,h1.ok,h1.guard⟩;have⟨c,f',g1,g2,g3,g4⟩:=Sj h1.op;rw[g3,g4];exact .inr (.inl ⟨c,f',_,g1,g2,rfl⟩)
   .simp [bad] at h1
  | st sz x y=>
   simp only[kO,eH];refine⟨?_,FE rs l _ ms h2⟩;rcases h1 with h1 | ⟨_,h1⟩
   .refine .inl ⟨?_,h1.dst,h1.ok,h1.guard⟩;unfold stOp
    split
    .exact h1.op
    .have ⟨t,x',y',g1,g2,g3,g4⟩:=avG h1.op;exact .inr (.inr (.inl ⟨t,x',y',sz,_,g1,g2,by rw[g3,g4]⟩))
   .simp [bad] at h1
  | cQ sz b x y=>
   simp only[kO,eH];refine⟨?_,FE rs l _ ms h2⟩;rcases h1 with h1 | ⟨_,h1⟩
   .refine .inl ⟨?_,h1.dst,h1.ok,h1.guard⟩;unfold aeG
    split
    .exact h1.op
    .have ⟨k,hk⟩:=acq h1.op;exact .inr (.inr (.inr (.inl ⟨k,_,sz,b,x,y,hk,rfl⟩)))
   .simp [bad] at h1
  | _=>
   simp only[kO,eH];exact⟨h1,FE rs l _ ms h2⟩
def aai{P:xm}{H:Hint}{ops:Array yT}:∀(rs:List aQ) (l:List yT) (done:List aQ),eH P H ops rs l->eH P H ops (Gk done rs) l
 | [],[],_,h=>h
 | [],_::_,_,h=>by simp[eH] at h
 | r::rs,[],done,h=>by simp[eH] at h
 | r::rs,o::l,done,h=>by
  simp only[eH] at h;obtain⟨h1,h2⟩:=h;simp only[Gk,eH];refine⟨?_,aai rs l _ h2⟩;obtain⟨d,g,op⟩:=r
  cases op with
  | cQ sz b x y=>
   simp only
   cases acm done x with
   | false=>exact h1
   | true=>
    simp only[yq];rcases h1 with h1 | ⟨_,h1⟩
    .refine .inl ⟨?_,h1.dst,h1.ok,h1.guard⟩;obtain⟨k,hk⟩:=acq h1.op;exact .inr (.inr (.inr (.inr (.inl ⟨k,sz,b,x,y,hk,rfl⟩))))
    .simp [bad] at h1
  | _=>exact h1
end
section
variable {O:bl}{self:cd}
def Nh{P:xm}{H:Hint}{ops:Array yT}:∀{rs:List aQ} {l:List yT},eH P H ops rs l->rs.length=l.length/\∀(i:Nat) (r:aQ) (o:yT),rs[i]? =Ft r->l[i]? =Ft o->Em P H ops r o\/(r.guard=Fu/\r.op=bad)
 | [],[],_=>⟨rfl,fun i r o h=>by simp at h⟩
 | [],_::_,h=>by simp[eH] at h
 | _::_,[],h=>by simp[eH] at h
 | r::rs,o::l,h=>by
  have⟨h1,h2⟩:=Nh h.2;refine⟨by simp[h1],fun i r' o' hr ho=>?_⟩
  cases i with
  | zero=>simp at hr ho;subst hr;subst ho;exact h.1
  | succ i=>exact h2 i r' o' (by simpa using hr) (by simpa using ho)
def ao1{H:Hint}{o:yT}{sz:Nat}{z:List AV}{ps:List (Nat×Nat×X)}(hq:oc P H (.iB n sz z ps) o):∃k,Op.iB n sz z ps=aP P H k o:=by
 rcases hq with h | ⟨_,_,_,_,_,h3⟩ | ⟨_,_,_,_,_,_,_,h3⟩ | ⟨_,_,_,_,_,_,_,h3⟩ | ⟨_,_,_,_,_,_,h3⟩ | ⟨_,_,_,_,_,_,h3⟩
 .exact h
 .cases h3
 .cases h3
 .cases h3
 .cases h3
 .cases h3
def aaj{P:xm}{H:Hint}{ops:Array yT}{all:List aQ}:∀(rs:List aQ) (l:List yT),eH P H ops rs l->eH P H ops (Ef all rs) l
 | [],[],h=>h
 | [],_::_,h=>by simp[eH] at h
 | r::rs,[],h=>by simp[eH] at h
 | r::rs,o::l,h=>by
  simp only[eH] at h;obtain⟨h1,h2⟩:=h;simp only[Ef,eH];refine⟨?_,aaj rs l h2⟩;obtain⟨d,g,op⟩:=r
  cases op with
  | iB n sz z ps=>
   simp only
   cases NT d all with
   | false=>exact h1
   | true=>
    simp only[yq];rcases h1 with h1 | ⟨_,h1⟩
    .refine .inl ⟨?_,h1.dst,h1.ok,h1.guard⟩;obtain⟨k,hk⟩:=ao1 h1.op;exact .inr (.inr (.inr (.inr (.inr ⟨k,n,sz,z,ps,hk,rfl⟩))))
    .simp [bad] at h1
  | _=>exact h1
def Cq(l:List yT):List Nat->List yT
 | []=>[]
 | x::r=>match l[x]? with | some o=>o::Cq l r | none=>Cq l r
def S4{P:xm}{H:Hint}{ops:Array yT}{rs:List aQ}{l:List yT}(h:eH P H ops rs l):∀(pm:List Nat),eH P H ops (Cm rs pm) (Cq l pm)
 | []=>trivial
 | x::r=>by
  obtain⟨h1,h2⟩:=Nh h;simp only[Cm,Cq]
  cases hr:rs[x]? with
  | none=>
   have:l[x]? =Fu:=by rw[List.getElem?_eq_none_iff] at hr ⊢;omega
   rw[this];exact S4 h r
  | some q=>
   have aM:=(xG.1 hr).1;have hl:l[x]? =Ft (l[x]'(by omega)):=by rw[yN]
   rw[hl];exact⟨h2 x q _ hr hl,S4 h r⟩
def Zv{l:List yT}:∀(pm:List Nat),(∀x,x∈pm->x<l.length)->(Cq l pm).length=pm.length/\∀(i:Nat),(Cq l pm)[i]? =(pm[i]?).bind (l[·]?)
 | [],_=>⟨rfl,fun i=>by simp[Cq]⟩
 | x::r,h=>by
  have hx:=h x wI;obtain⟨h1,h2⟩:=Zv r (fun y hy=>h y (xL _ hy));have hl:l[x]? =Ft l[x]:=by rw[yN]
  simp only[Cq,hl];refine⟨by simp[h1],fun i=>?_⟩
  cases i with
  | zero=>simp[hl]
  | succ i=>simpa using h2 i
def Yc{m:Nat}:∀(pm:List Nat) (k i:Nat),vI (FW m pm k) i=ydh->k<=i/\∃x,pm[i-k]? =Ft x/\vI m x=ydh
 | [],k,i,h=>by simp[FW] at h
 | x::r,k,i,h=>by
  simp only[FW,ybV,uF] at h;rcases h with h | h
  .cases hx:vI m x with
   | false=>simp[hx] at h
   | true=>
    simp only[hx,yq,Nat.testBit_two_pow,tI] at h;subst h;exact⟨yu _,x,by simp,hx⟩
  .obtain ⟨h1,y,h2,h3⟩:=Yc r (k+1) i h;refine⟨by omega,y,?_,h3⟩;rw[show i-k=(i-(k+1))+1 by omega,yaM];exact h2
def Yd{ms pm all:List Nat}:∀(l:List Nat) (j:Nat),(BZ ms pm all l)[j]? =(l[j]?).map fun x=>FW (ms.getD x 0) pm 0
 | [],j=>by simp[BZ]
 | x::r,0=>by simp[BZ]
 | x::r,j+1=>by simpa[BZ] using Yd r j
def ajt(h:Jk n pm (zG pm n)=ydh):pm.length=n/\(∀x,x∈pm->x<n)/\Jo n (fun i=>pm.getD i i):=by
 simp only[Jk,ye] at h;obtain⟨h1,h2⟩:=h;have hl:=yf h1;have By:(zG pm n).length=n:=by simp[zG]
 have h3:∀i,i<n->pm.getD i i<n/\(zG pm n).getD i i<n/\(zG pm n).getD (pm.getD i i) i=i/\pm.getD ((zG pm n).getD i i) i=i:=fun i hi=>by
  have:=ybA.1 h2 i (wL.2 hi)
  simp only[ye] at this;obtain⟨a,b,c,d⟩:=this;exact⟨qt.1 a,qt.1 b,yf c,yf d⟩
 have out:∀i,n<=i->pm.getD i i=i:=fun i hi=>by rw[yD,List.getElem?_eq_none (by omega)];rfl
 generalize zG pm n=inv at h3 By;have aeP:∀(l:List Nat) (i a b:Nat),i<l.length->l.getD i a=l.getD i b:=fun l i a b hi=>by
  rw[yD,yD,yN hi];rfl
 refine⟨hl,fun x hx=>?_,⟨fun i j pU=>?_,fun x hx=>?_,fun i hi=>(h3 i hi).1⟩⟩
 .obtain ⟨i,hi,rfl⟩:=List.getElem_of_mem hx
  have:=(h3 i (by omega)).1
  rwa[yD,yN hi] at this
 .have pU:pm.getD i i=pm.getD j j:=pU;by_cases hi:i<n
  .by_cases hj:j<n
   .have a:=(h3 i hi).2.2.1;have b:=(h3 j hj).2.2.1;rw[pU] at a;rw[aeP inv _ i j (by rw[By];exact (h3 j hj).1)] at a
    exact a.symm.trans b
   .rw [out j (by omega)] at pU
    have:=(h3 i hi).1
    omega
  .by_cases hj:j<n
   .rw [out i (by omega)] at pU
    have:=(h3 j hj).1
    omega
   .rw [out i (by omega),out j (by omega)] at pU;exact pU
 .obtain ⟨_,b,_,d⟩:=h3 x hx;exact⟨_,b,by show pm.getD _ _=x;rw[aeP pm _ _ x (by omega)];exact d⟩
def Ye{H:Hint}{ops:Array yT}{rs:List aQ}{Pp:aF}{L:Lib}{EY:cd}(fk:(nN ops.toList 0&&qg [] rs (jW [] ops.toList))=ydh)(OM:eH P H ops rs ops.toList)(hv:cV Pp L EY rs s=Ft s'):
  ∃rs π,Jo ops.size π/\nN ops.toList 0=ydh/\(rs.length=ops.size/\∀(i:Nat) (r:aQ) (o:yT),rs[i]? =Ft r->ops[π i]? =Ft o->Em P H ops r o\/(r.guard=Fu/\r.op=bad))/\
    (∀(i j:Nat) (x y:aQ),i<j->rs[i]? =Ft x->rs[j]? =Ft y->Ord ops (π i) (π j)\/Ew x y ((rs.take j).drop (i+1)))/\cV Pp L EY rs s=Ft s':=by
 simp only[ye] at fk;obtain⟨hlen,ai⟩:=Nh OM;refine⟨rs,fun i=>i,⟨fun _ _ h=>h,fun x h=>⟨x,h,rfl⟩,fun _ h=>h⟩,fk.1,⟨by rw[hlen];simp,fun i r o hr ho=>ai i r o hr (by simpa using ho)⟩,fun i j x y pU hx hy=>?_,hv⟩
 obtain⟨mm,g1,g2⟩:=QY (done:=[]) (i:=i) (j:=j) (a:=x) (b:=y) fk.2 (by simpa using hx) hy (by simpa using pU);refine g2.imp (fun g=>?_) (fun g=>by simpa using g);unfold Ord;rw[yD,g1];exact g
def ajd{H:Hint}{ops:Array yT}{l:List aQ}{sH:List Nat}{Pp:aF}{L:Lib}{EY:cd}(E3:eH P H ops l ops.toList)(Ww:BZ (jW [] ops.toList) pm pm pm=sH)(q1:nN ops.toList 0=ydh)(q2:Jk ops.size pm (zG pm ops.size)=ydh)(q3:qg [] (kO [] (Cm (Ef l l) pm) sH) sH=ydh)(hv:cV Pp L EY (kO [] (Cm (Ef l l) pm) sH) s=Ft s'):
  ∃rs π,Jo ops.size π/\nN ops.toList 0=ydh/\(rs.length=ops.size/\∀(i:Nat) (r:aQ) (o:yT),rs[i]? =Ft r->ops[π i]? =Ft o->Em P H ops r o\/(r.guard=Fu/\r.op=bad))/\
    (∀(i j:Nat) (x y:aQ),i<j->rs[i]? =Ft x->rs[j]? =Ft y->Ord ops (π i) (π j)\/Ew x y ((rs.take j).drop (i+1)))/\cV Pp L EY rs s=Ft s':=by
 obtain⟨hl,aM,hπ⟩:=ajt q2;have h1:=FE _ _ [] sH (S4 (aaj (all:=l) _ _ E3) pm);obtain⟨h2,h3⟩:=Nh h1;obtain⟨h4,h5⟩:=Zv (l:=ops.toList) pm (fun x hx=>by simpa using aM x hx);refine⟨_,_,hπ,q1,⟨by rw[h2,h4,hl],fun i r o hr ho=>h3 i r o hr ?_⟩,fun i j x y pU hx hy=>?_,hv⟩
 .have hi:i<pm.length:=by have:=(xG.1 hr).1;omega
  rw[h5,yN hi,wG];rw[yD,yN hi,xF] at ho;simpa using ho
 .have hj:j<pm.length:=by have:=(xG.1 hy).1;omega
  obtain⟨mm,g1,g2⟩:=QY (done:=[]) (i:=i) (j:=j) (a:=x) (b:=y) q3 (by simpa using hx) hy (by simpa using pU);refine g2.imp (fun g=>?_) (fun g=>by simpa using g);rw[<-Ww,Yd,yN hj,wU,yb] at g1;subst g1;obtain⟨_,z,g3,g4⟩:=Yc _ _ _ g;unfold Ord
  rw[yD (l:=pm),yN hj,xF]
  rw[yD (l:=pm),show pm[i]? =Ft z by simpa using g3,xF];exact g4
def ak8{m:Mp}{S:Nat->Prop}{w:yi}{hp:Hp}{ct:Nat}(hh:aR O m S w hp ct):Calm w {w with drawn:=w.drawn+1}:=⟨rfl,rfl,rfl,yu _,fun _ _=>rfl⟩
def arT(hO:iw O)(hC:oV O self)(h:Nat)(id:Nat)(ops:Array yT)(draw:Bool)(k:Nat)(hv:cV O.prog O.aI self (Nt O.P (O.hint h) ops draw k).1 s=Ft s'):Cp O h (.region id ops draw) s .normal s':=by
 intro ro lo m S w a cO ht hh hb hn bc fm bV;unfold Nt at hv;have E3:=YE (P:=O.P) (H:=O.hint h) (ops:=ops) ops.toList k;generalize hq:DN O.P (O.hint h) ops ops.toList k=q at hv E3;obtain⟨l,k'⟩:=q;simp only at hv E3;have post:∀{a':Act} {m':Mp} {S':Nat->Prop} {w':yi},aR O m' S' w' s'.hp s'.ct->s.ct<=s'.ct->bO O m' S' w' s'.tm a'.tmps->bU m S w s.hp m' S' w' s'.hp s.ct->a'.tmps.size=a.tmps.size->a'.defers=a.defers->s'.base=s.base->eM O m S w s .normal s' a.tmps.size lo .normal a' w':=by
  intro a' m' S' w' h1 h2 h3 h4 h5 h6 h7;exact⟨rfl,m',S',h3,h1,h7,by omega,h4.zO hb,h5,by rw[h6];exact BR hh h4 bV⟩
 cases draw with
 | false=>
  simp only[yO] at hv;refine wpIn_region ?_;rw[List.range_eq_range'];have hl:ops.size=ops.toList.length:=by simp
  rw[hl];exact abA hC (hO.hint h) ops.toList l 0 s s' a m S w (fun j=>by simp) E3 hv ht hh hn (fun a' m' S' w' h1 h2 h3 h4 h5 h6 h7=>post h1 h2 h3 h4 h5 h6 h7)
 | true=>
  simp only[yq] at hv;have ru:∃rs π,Jo ops.size π/\nN ops.toList 0=ydh/\(rs.length=ops.size/\∀(i:Nat) (r:aQ) (o:yT),rs[i]? =Ft r->ops[π i]? =Ft o->Em O.P (O.hint h) ops r o\/(r.guard=Fu/\r.op=bad))/\
    (∀(i j:Nat) (x y:aQ),i<j->rs[i]? =Ft x->rs[j]? =Ft y->Ord ops (π i) (π j)\/Ew x y ((rs.take j).drop (i+1)))/\cV O.prog O.aI self rs s=Ft s':=by
   have OM:=FE l ops.toList [] (jW [] ops.toList) E3
   cases fk:(nN ops.toList 0&&qg [] (kO [] l (jW [] ops.toList)) (jW [] ops.toList)) with
   | true=>
    rw[fk] at hv;exact Ye fk OM hv
   | false=>
    rw[fk] at hv;simp only[yO] at hv
    cases Kn:(nN ops.toList 0&&qg [] (Gk [] (kO [] l (jW [] ops.toList))) (jW [] ops.toList)) with
    | true=>
     rw[Kn] at hv;exact Ye Kn (aai _ _ _ OM) hv
    | false=>
     rw[Kn] at hv;simp only[yO] at hv;generalize hpm:places l (jW [] ops.toList)=pm at hv;generalize Ww:BZ (jW [] ops.toList) pm pm pm=sH at hv
     cases ON:(nN ops.toList 0&&(Jk ops.size pm (zG pm ops.size)&&qg [] (kO [] (Cm (Ef l l) pm) sH) sH)) with
     | false=>
      rw[ON] at hv;simp[cV,bad,aX,er,ay] at hv
     | true=>
      rw[ON] at hv;simp only[yq] at hv;simp only[ye] at ON;obtain⟨q1,q2,q3⟩:=ON;exact ajd E3 Ww q1 q2 q3 hv
  clear hv;obtain⟨rs,π,hπ,avH,⟨hlen,ai⟩,avI,hv⟩:=ru
  .obtain ⟨bd,bB,bw,vF,hR,e1,e2,e3,e4,e5,e6,e7⟩:=abB hv;have hG:zI O (O.hint h) self ops π rs bd bB bw vF:=by
    refine⟨hR,hlen,fun i r o hr ho=>?_,avI,fun i o ho e he hbd=>?_⟩
    .rcases ai i r o hr ho with g | ⟨g1,g2⟩
     .exact g
     .have:=hR.step i r hr
      simp[eU,g1,qJ,g2,bad,aX,er,ay] at this
    .have:=XW avH (j:=i) (o:=o) (by simpa using ho) e he hbd
     omega
   refine wpIn_region_any hO.mixed ?_;have J8:=ak8 hh;have iL:=BQ hh J8 (S':=S) (fun _ h=>h) (fun _ h=>.inl h) hh.slt
   have kG:bU m S w s.hp m S {w with drawn:=w.drawn+1} s.hp (bw 0):=AD hh J8 (fun _ h=>h) (fun _ h=>.inl h);obtain⟨c,c1,c2,c3,c4⟩:=TB rs rs.length 0 (by omega);have hg:∀k',k'<=c->jj (bB 0) (bw 0) (bB (0+k')) (bw (0+k')):=fun k' Bs=>
    MW hR (by rw[e2,e3];exact hh.aM) k' (by omega) (fun j r g1 g2 hr=>Jc hr (c3 j g1 (by omega)))
   have kY:=hg c (yu _);rw[yd] at kY;obtain⟨S1,g1,g2,g3,g4⟩:=Nb (by rw[e2,e3];exact iL:aR O m S {w with drawn:=w.drawn+1} (bB 0) (bw 0)) kY
   have zH:∀i,(uD ops.size ydi).getD i ydi=ydh->False:=fun i hi=>by
    simp only[wv] at hi;by_cases aM:i<ops.size
    .simp [aM] at hi
    .rw [yaL (by simpa using aM)] at hi;simp at hi
   refine arS (m0:=m) (S0:=S) (w0:=w) (n0:=a.tmps.size) (d0:=a.defers) hC (hO.hint h) hG hπ hn (fun a' m' S' w' h1 h2 h3 h4 h5 h6=>?_) ops.size _ 0 c m S1 _ a (by simp) ?_ (fun j o _ hj=>(zH j hj).elim) ?_
   .rw [e5,e6] at h1;rw[e3,e6] at h2;rw[e4] at h3;rw[e2,e3,e5] at h4;exact post h1 h2 h3 h4 h5 h6 e7
   .unfold left;rw[List.countP_eq_length.2]
    .simp
    .intro i hi;simp only[vS]
     cases hq:(uD ops.size ydi).getD i ydi with
     | false=>rfl
     | true=>exact (zH i hq).elim
   .refine ⟨uN _,c2,fun i hi=>by omega,c3,c4.imp (fun h=>h) (fun h=>⟨h,fun hd=>zH _ hd⟩),fun i r _ _ _ hd=>zH _ hd,g1,fun id p hp=>.inl (by rw[e3];exact hh.lt id p hp),fun t=>⟨0,uN _,fun i r _ _=>⟨fun hd=>(zH _ hd).elim,fun h=>by omega⟩,?_⟩,?_,kY.rq,rfl,rfl,.inl rfl,fun j hj=>?_⟩
    .rw [e1];exact mo (fun _ _ h=>h) (fun b hb=>g2 b hb) (fun b hb=>J8.same b (hh.slt b hb)) _ _ (ht t)
    .rw [e2];have g5:=g4 (bw 0);rw[e2] at g5;exact kG.trans g5
    .have:=(hg j hj).lt
     rw[yd] at this;exact this
end
end
end
section
open Go
section
variable {ps:List Nat}{b l:Nat}{P:xm}
section
variable {O:bl}{m:Mp}{S:Nat->Prop}{w:yi}{hp:Hp}{ct:Nat}
def YH(hh:aR O m S w hp ct){g:Nat}{w':yi}(hw:One w w' g)(hg:¬S g)(ho:¬dV m hp g)(bc:O.w0.heap.size<=g):aR O m S w' hp ct:=by
 have aT:fR S w w':=fun b hb=>hw.other b (fun e=>hg (e▸hb))
 refine⟨fun id o p h1 h2=>?_,hh.lt,hh.inj,fun b hb=>by rw[hw.size];exact hh.slt b hb,fun id p h=>by rw[hw.size];exact hh.blt id p h,hh.low,fun b hb=>?_,by rw[hw.size];exact hh.fY,hh.aM⟩
 .exact zk (fun _ _ h=>h) (fun _ h=>h) aT (fun q hq=>hw.other _ (fun e=>ho ⟨id,o,q,h1,hq,e⟩)) (fun _ _ h=>h) (hh.obj id o p h1 h2)
 .rw [hw.other b (by lia)];exact hh.mB b hb
def YI{o:yar}(h:w.heap[b]? =Ft o)(hc:∀c t f,o≠.cells c t f):(getObj b).run P w=.ok o w:=by
 simp only[getObj,Sem.run,h]
def ME{o x:yar}(h:w.heap[b]? =Ft o)(hc:∀c t f,o≠.cells c t f):(setObj b x).run P w=.ok () {w with heap:=w.heap.setIfInBounds b x}:=by
 simp only[setObj,Sem.run,h]
def IJ{r:uV}(h:w.heap[b]? =Ft (.loop r)):(Instr.getLoop b).run P w=.ok r w:=by
 simp only[Instr.getLoop,Sem.run_bind,YI (P:=P) h (fun _ _ _=>by simp),Result.andThen_ok,Sem.run_pure]
def Jd(hh:aR O m S w hp ct){tm:Env}{as_ body:VC}{st:Nat}{pe:sf}{p:Pl}(hg:ai hp l=Ft (.lp tm ps as_ body st pe))(hm:m l=Ft p):
  ∃(r:uV) (h:Nat),w.heap[p.b]? =Ft (.loop r)/\¬S p.b/\r.state=Cw st/\st<=2/\r.pending=AL pe/\bO O m S w tm r.tmps/\r.params.toList=ps/\CS O.P (O.hint h) as_ r.assign/\CS O.P (O.hint h) body r.body/\
   (O.hint h).n<=r.tmps.size/\AS (O.hint h).n ps=ydh:=by
 have⟨q,r,h,g1,g2,g3⟩:=hh.obj l _ p hg hm
 grind
def Zw(hh:aR O m S w hp ct){tm:Env}{as_ body:VC}{st:Nat}{pe:sf}{p:Pl}(hg:ai hp l=Ft (.lp tm ps as_ body st pe))(hm:m l=Ft p){r:uV}(hr:w.heap[p.b]? =Ft (.loop r)){st':Nat}{pe':sf}(h2:st'<=2):
  aR O m S {w with heap:=w.heap.setIfInBounds p.b (.loop {r with state:=Cw st',pending:=AL pe'})} (aU hp l (.lp tm ps as_ body st' pe')) ct/\
  bU m S w hp m S {w with heap:=w.heap.setIfInBounds p.b (.loop {r with state:=Cw st',pending:=AL pe'})} (aU hp l (.lp tm ps as_ body st' pe')) ct:=by
 have⟨r',h,g1,g2,g3,g4,g5,g6,g7,g8,g9,g10,g11⟩:=Jd hh hg hm;rw[hr] at g1;injection g1 with g1
 injection g1 with g1
 subst g1;have fM:=Fy w p.b (.loop {r with state:=Cw st',pending:=AL pe'})
 refine IZ hh hg hm g2 fM ⟨p,{r with state:=Cw st',pending:=AL pe'},h,hm,MA hr,g2,rfl,h2,rfl,?_,g7,g8,g9,g10,g11⟩ (fun _ _=>⟨_,MA hr⟩);exact BP (fun _ _ h=>h) (fun _ h=>h) (fun b hb=>fM.other b (fun e=>g2 (e▸hb))) g6
def Zx{n:Nat}:∀{ps:List Nat} {vs:List AV} {us:List yg} {tm tm':Env} {tmps:Array yg},qC tm ps vs=Ft tm'->az O.ab m S w vs us->bO O m S w tm tmps->n<=tmps.size->AS n ps=ydh->
  ps.length=us.length/\bO O m S w tm' ((ps.zip us).foldl (fun t (x:Nat×yg)=>t.setIfInBounds x.1 x.2) tmps)/\((ps.zip us).foldl (fun t (x:Nat×yg)=>t.setIfInBounds x.1 x.2) tmps).size=tmps.size
 | [],[],us,tm,tm',tmps,h,hr,ht,hn,ha=>by
  simp only[qC,yb] at h;simp only[az] at hr
  simp_all
 | [],_::_,us,tm,tm',tmps,h,hr,ht,hn,ha=>by simp[qC] at h
 | _::_,[],us,tm,tm',tmps,h,hr,ht,hn,ha=>by simp[qC] at h
 | p::ps,v::vs,us,tm,tm',tmps,h,hr,ht,hn,ha=>by
  simp only[qC] at h;obtain⟨u,t,rfl,h1,h2⟩:=hr;simp only[AS,ye] at ha;have hp:=qt.1 ha.1;have ht1:bO O m S w ((p,v)::tm) (tmps.setIfInBounds p u):=Sm (a:=⟨tmps,[]⟩) (d:=Ft p) ht (fun i hi=>by injection hi with hi;show i<tmps.size;lia) h1
  have⟨g1,g2,g3⟩:=Zx (n:=n) h h2 ht1 (by simpa using hn) ha.2
  simp_all
def am3(ps:Array Tmp)(args:Array yg)(tmps:Array yg):(ps.zip args).foldl (fun tmps (x:Tmp×yg)=>tmps.setIfInBounds x.1 x.2) tmps=(ps.toList.zip args.toList).foldl (fun t (x:Nat×yg)=>t.setIfInBounds x.1 x.2) tmps:=by
 rw[<-Array.foldl_toList,Array.toList_zip]
def aje{r:uV}(h:w.heap[b]? =Ft (.loop r))(jump:Option vz):
  (Instr.endRound b jump).run P w=.ok (.bool jump.isNone) {w with heap:=w.heap.setIfInBounds b (.loop {r with state:=if jump.isNone then .ready else .done,pending:=jump})}:=by
 simp only[Instr.endRound,Sem.run_bind,IJ h,Result.andThen_ok,ME (P:=P) h (fun _ _ _=>by simp),Sem.run_pure]
def ai0{r:uV}(h:w.heap[b]? =Ft (.loop r))(hs:r.state=.ready):
  (Instr.beginRound b).run P w=.ok () {w with heap:=w.heap.setIfInBounds b (.loop {r with state:=.busy})}:=by
 simp only[Instr.beginRound,Sem.run_bind,IJ h,Result.andThen_ok,ME (P:=P) h (fun _ _ _=>by simp),hs,Sem.run_pure]
def am4{self:cd}(hS:∀v s ex s',self v s=Ft (ex,s')->∀c h l k,(comp O.P (O.hint h) c l k).1=v->Cp O h c s ex s'){xs:List AV}{v:AV}{an:Hp}{aH:Nat}(hv:fV self hp ct l xs=Ft (v,an,aH)):acn O hp ct l xs v an aH:=by
 intro m S w args p hh hm eA;unfold fV at hv
 split at hv
 case h_2=>cases hv
 rename_i tm ps as_ body pe hg;have⟨r,h,g1,g2,g3,g4,g5,g6,g7,⟨ca,ka,g8⟩,⟨cb,kb,g9⟩,g10,g11⟩:=Jd hh hg hm
 cases hb:qC tm ps xs with
 | none=>simp[hb] at hv
 | some tm'=>
  simp only[hb] at hv;have⟨b1,b2,b3⟩:=Zx hb eA g6 g10 g11;rw[<-g7] at b1 b2 b3;have eC:args.size=r.params.size:=by
   grind
  let tmps:Array yg:=(r.params.zip args).foldl (fun tmps (x:Tmp×yg)=>tmps.setIfInBounds x.1 x.2) r.tmps
  have aeQ:tmps=(r.params.toList.zip args.toList).foldl (fun t (x:Nat×yg)=>t.setIfInBounds x.1 x.2) r.tmps:=am3 _ _ _;refine⟨r.fn,tmps,r.assign,r.body,?_,?_⟩
  .simp only [Instr.yield,Sem.run_bind,IJ g1,Result.andThen_ok,eC,ne_eq,ydc,xy,Sem.run_pure];rfl
  refine roundIn_of_wpIn (F:=Fence.wide) trivial ?_
  cases h1:self as_ ⟨tm',hp,ct,ct⟩ with
  | none=>simp[h1] at hv
  | some q=>
   have⟨ex1,s1⟩:=q
   cases ex1 with
   | ret=>simp[h1] at hv
   | exit id=>simp[h1] at hv
   | normal=>
    simp only[h1] at hv;have eL:=hS _ _ _ _ h1 r.assign h ca ka g8;have cO:∀w',bU m S w hp m S w' hp ct->AM (Ft p.b) w':=fun w' hf=>MY hf (fun l hl=>⟨r,by injection hl with hl;subst hl;exact g1⟩)
    refine wpIn_mono (eL (Ft p.b) w.heap.size m S w ⟨tmps,[]⟩ (cO w bU.refl) (by rw[aeQ];exact b2) hh (yu _) (by show _<=tmps.size;rw[aeQ,b3];exact g10) hh.fY (yu _) ⟨[],rfl,by simp,by simp⟩) ?_
    rintro e a1 w1 ⟨rfl,m1,S1,k1,k2,k3,k4,k5,k6,k7⟩;simp only[sj,Exit.then];have C7:m1 l=Ft p:=k5.old l p (hh.lt l p hm) hm
    split at hv
    case h_2=>cases hv
    rename_i gh pM CR Eg nm kY;have⟨r1,iL,f1,f2,f3,f4,f5,f6,f7,f8,f9,f10,f11⟩:=Jd k2 kY C7;have Wx:=ai0 (P:=O.P) f1 f3;have⟨q1,q2⟩:=Zw k2 kY C7 f1 (st':=1) (pe':=nm) (by lia)
    have eZ:({r1 with state:=Cw 1,pending:=AL nm}:uV)={r1 with state:=.busy}:=by rw[<-f5];rfl
    rw[eZ] at q1 q2;refine⟨_,Wx,?_⟩
    cases h2:self body ⟨s1.tm,aU s1.hp l (.lp gh pM CR Eg 1 nm),s1.ct,s1.ct⟩ with
    | none=>simp[h2] at hv
    | some q=>
     have⟨ex,s2⟩:=q;simp only[h2] at hv;have CY:=hS _ _ _ _ h2 r.body h cb kb g9
     have axB:AM (Ft p.b) {w1 with heap:=w1.heap.setIfInBounds p.b (.loop {r1 with state:=.busy})}:=fun l hl=>by
      grind
     have Wy:bO O m1 S1 {w1 with heap:=w1.heap.setIfInBounds p.b (.loop {r1 with state:=.busy})} s1.tm a1.tmps:=
      BP (fun _ _ h=>h) (fun _ h=>h) (fun b hb=>q2.still b hb) k1
     have axC:(O.hint h).n<=a1.tmps.size:=by
      grind
     refine wpIn_mono (CY (Ft p.b) w.heap.size m1 S1 _ a1 axB Wy q1 (yu _) axC hh.fY (xo k5.size q2.size) (BR k2 q2 k7)) ?_;rintro e a2 w2 ⟨rfl,m2,S2,j1,j2,j3,j4,j5,j6,j7⟩;have C8:m2 l=Ft p:=j5.old l p (k2.lt l p C7) C7
     split at hv
     case h_2=>cases hv
     rename_i kU rh Lj J5 P4 Hh;have⟨r2,Lx,d1,d2,d3,d4,d5,d6,d7,d8,d9,d10,d11⟩:=Jd j2 Hh C8;have axD:bU m S w hp m2 S2 w2 s2.hp ct:=(k5.trans (q2.zO k4)).trans (j5.zO k4);have aeR:ct<=s2.ct:=xo k4 j4;have fin:∀(jump:Option vz) (st':Nat) (pe':sf),AL pe'=jump->Cw st'=(if jump.isNone then .ready else .done)->st'<=2->
       ∃v' w',(Instr.endRound p.b jump).run O.P w2=.ok v' w'/\AB O m S w hp ct (.bool jump.isNone) (aU s2.hp l (.lp kU rh Lj J5 st' pe')) s2.ct (.returned v') w':=by
      intro jump st' pe' e1 e2 e3;have⟨z1,z2⟩:=Zw j2 Hh C8 d1 (st':=st') (pe':=pe') e3;rw[e1,e2] at z1 z2;exact⟨_,_,aje d1 jump,_,m2,S2,rfl,z1,aeR,by simp[ae],axD.trans (z2.zO aeR)⟩
     cases ex with
     | normal=>
      simp only[yb,yj] at hv;obtain⟨rfl,rfl,rfl⟩:=hv;simp only[sj,roundPost];exact fin Fu 0 .none rfl rfl (by lia)
     | ret=>
      simp only[NU,yb,yj] at hv;obtain⟨rfl,rfl,rfl⟩:=hv;simp only[sj,roundPost];exact fin (Ft .ret) 2 .ret rfl rfl (by lia)
     | exit id=>
      simp only[NU,yb,yj] at hv;obtain⟨rfl,rfl,rfl⟩:=hv;simp only[sj,roundPost];exact fin (Ft (.exit id)) 2 (.exit id) rfl rfl (by lia)
end
end
end
section
open Go
section
variable {O:bl}{self:cd}
def I1{P:xm}{f:tW}{fn:yaO}{args:Array yg}{w:yi}(hf:P.funcs[f]? =Ft fn)(hb:fn.body.isSome=ydh)(hn:fn.name≠ "runtime.NumGoroutine"):(callFunc f args).run P w=.ok (.enter f args) w:=by
 have h1:fn.body≠Fu:=fun e=>by rw[e] at hb;cases hb
 simp[callFunc,program,Sem.run,hf,h1,hn]
def Q7{P:xm}{H:Hint}{fn:yaO}{F:aC}(h:FY P H fn=Ft F):∃c,fn.body=Ft c/\F.body=(comp P H c 0 0).1/\qj P fn.results.toList=Ft F.eb/\H.n<=fn.ntmps:=by
 unfold FY at h
 split at h
 .rename_i c rs h1 h2
  cases hb:yA H.n fn.ntmps with
  | false=>rw[hb] at h;cases h
  | true=>
   rw[hb] at h;simp only[yq,yb] at h;subst h
   simp_all
 .cases h
def am5{m:Mp}{S:Nat->Prop}{w:yi}{hp:Hp}{ct:Nat}{tm:Env}{a:Act}{ro:Option Nat}(fn:tW)(ps:Array Tmp)(assign body:vz){as_ b':VC}{h:Nat}(hh:aR O m S w hp ct)(ht:bO O m S w tm a.tmps)(cO:AM ro w)(Wz:CS O.P (O.hint h) as_ assign)(WA:CS O.P (O.hint h) b' body)(hn:(O.hint h).n<=a.tmps.size)(ja:AS (O.hint h).n ps.toList=ydh){lo:Nat}(fm:lo<=w.heap.size)(bV:Marks lo S w a.defers):
  ∃l mark w1,(Instr.enterLoop fn a.tmps ps assign body ro).run O.P w=.ok (l,mark) w1/\aR O (fy m ct ⟨l,0,0,0⟩) S w1 ((ct,.lp tm ps.toList as_ b' 0 .none)::hp) (ct+1)/\
   bU m S w hp (fy m ct ⟨l,0,0,0⟩) S w1 ((ct,.lp tm ps.toList as_ b' 0 .none)::hp) ct/\m ct=Fu/\Marks lo S w1 (mark++a.defers)/\w.heap.size<=l:=by
 have bD:m ct=Fu:=by
  cases hq:m ct with
  | none=>rfl
  | some p=>have:=hh.lt ct p hq;omega
 have lay:∀(w':yi) (d:Nat),Calm w w'->Marks lo S w' a.defers->
   aR O (fy m ct ⟨w'.heap.size,0,0,0⟩) S (w'.alloc (.loop {state:=.ready,pending:=Fu,fn:=fn,tmps:=a.tmps,params:=ps,assign:=assign,body:=body,defers:=d})) ((ct,.lp tm ps.toList as_ b' 0 .none)::hp) (ct+1)/\
   bU m S w hp (fy m ct ⟨w'.heap.size,0,0,0⟩) S (w'.alloc (.loop {state:=.ready,pending:=Fu,fn:=fn,tmps:=a.tmps,params:=ps,assign:=assign,body:=body,defers:=d})) ((ct,.lp tm ps.toList as_ b' 0 .none)::hp) ct:=by
  intro w' d hw aeS;have iL:aR O m S w' hp ct:=BQ hh hw (fun _ h=>h) (fun _ h=>.inl h) (fun b hb=>yE (hh.slt b hb) hw.size);have kG:bU m S w hp m S w' hp ct:=AD hh hw (fun _ h=>h) (fun _ h=>.inl h);have hg:jj hp ct ((ct,.lp tm ps.toList as_ b' 0 .none)::hp) (ct+1):=by
   refine⟨fun id o ho=>⟨o,?_,jw.refl o⟩,by omega,fun id o ho=>?_,fun id o ho hi=>?_⟩
   .rw [fo,yz (by have:=hh.aM id o ho;omega)];exact ho
   .rw [fo] at ho;by_cases hc:ct=id
    .omega
    .simp only [hc,xy] at ho;have:=hh.aM id o ho;omega
   .rw [fo,yz (by omega)] at ho;exact⟨o,ho⟩
  have cN:∀i q,ai ((ct,Obj.lp tm ps.toList as_ b' 0 .none)::hp) i=Ft q->i≠ct->ai hp i=Ft q:=fun i q h hi=>by
   rw[fo,yz (fun e=>hi e.symm)] at h;exact h
  have Lx:aR O m S w' ((ct,.lp tm ps.toList as_ b' 0 .none)::hp) (ct+1):=by
   have ek:∀id p,m id=Ft p->id≠ct:=fun id p hm e=>by have:=hh.lt id p hm;omega
   exact⟨fun id o p ho hm=>iL.obj id o p (cN id o ho (ek id p hm)) hm,fun id p hm=>by have:=hh.lt id p hm;omega,
    fun i j oi oj pi pj hi hj bD gK e=>iL.inj i j oi oj pi pj (cN i oi hi (ek i pi bD)) (cN j oj hj (ek j pj gK)) bD gK e,iL.slt,iL.blt,iL.low,iL.mB,iL.fY,hg.lt⟩
  have pP:eY O (fy m ct ⟨w'.heap.size,0,0,0⟩) S (w'.alloc (.loop {state:=.ready,pending:=Fu,fn:=fn,tmps:=a.tmps,params:=ps,assign:=assign,body:=body,defers:=d})) ct (.lp tm ps.toList as_ b' 0 .none):=by
   refine⟨⟨w'.heap.size,0,0,0⟩,_,h,du,heap_alloc_new w' _,?_,rfl,by omega,rfl,?_,rfl,Wz,WA,hn,ja⟩
   .intro hS
    have:=iL.slt _ hS
    simp at this
   .exact BP (jD bD) (fun _ h=>h) (fun b hb=>(IM iL _ b hb).trans (hw.same b (hh.slt b hb))) ht
  obtain⟨S',k1,k2,k3⟩:=Sg (i:=ct) (p:=⟨w'.heap.size,0,0,0⟩) Lx bD (by omega) rfl (fun o ho=>by
   rw[fo] at ho;simp only[xQ,yb] at ho;subst ho
   exact .inl ⟨pP,by simp[je]⟩)
  have k1':aR O (fy m ct ⟨w'.heap.size,0,0,0⟩) S (w'.alloc (.loop {state:=.ready,pending:=Fu,fn:=fn,tmps:=a.tmps,params:=ps,assign:=assign,body:=body,defers:=d})) ((ct,.lp tm ps.toList as_ b' 0 .none)::hp) (ct+1):=by
   have Lo:∀id q,m id=Ft q->q.b≠w'.heap.size:=fun id q hq=>by have:=iL.blt id q hq;lia
   refine⟨?_,k1.lt,k1.inj,fun b hb=>k1.slt b (k2 b hb),k1.blt,k1.low,k1.mB,k1.fY,k1.aM⟩;intro id o q ho hm;by_cases hc:id=ct
   .subst hc;rw[fo] at ho
    grind
   .rw [dY hc] at hm;exact zk (jD bD) (fun _ h=>h) (IM iL _) (fun q' bG=>alloc_old (iL.blt id q' bG)) (fun _ _ h=>h) (iL.obj id o q (cN id o ho hc) hm)
  refine⟨k1',kG.trans ⟨rfl,rfl,rfl,by simp,fun b hb _=>alloc_old hb,fun _ h=>h,fun b hb=>IM iL _ b hb,fun b hb=>.inl hb,?_,fun i q _ hq=>jD bD i q hq,fun b r hb=>⟨r,(alloc_old (xt.1 hb).1).trans hb⟩⟩⟩;rintro b ⟨i,o,q,g1,g2,g3⟩;by_cases hc:i=ct
  .subst hc;rw[du] at g2
   grind
  .rw [dY hc] at g2;exact .inl ⟨i,o,q,cN i o g1 hc,g2,g3⟩
 cases ro with
 | none=>
  have J8:Calm w (w.alloc (.deferred (Ft []))):=⟨rfl,rfl,rfl,by simp,fun b hb=>alloc_old hb⟩;have⟨rs,r1,r2,r3⟩:=bV;have axE:Marks lo S (w.alloc (.deferred (Ft []))) a.defers:=⟨rs,r1,r2,fun r hr=>⟨(alloc_old (xt.1 (r3 r hr).1).1).trans (r3 r hr).1,(r3 r hr).2⟩⟩;have⟨k1,k2⟩:=lay (w.alloc (.deferred (Ft []))) w.heap.size J8 axE
  refine⟨(w.alloc (.deferred (Ft []))).heap.size,[{target:=.collected w.heap.size,args:=#[]}],_,?_,k1,k2,bD,?_,by simp⟩
  .simp [Instr.enterLoop,newObj,Sem.run]
  .have hold:∀(b:Nat) (x:yar),(w.alloc (.deferred (Ft []))).heap[b]? =Ft x->((w.alloc (.deferred (Ft []))).alloc (.loop {state:=.ready,pending:=Fu,fn:=fn,tmps:=a.tmps,params:=ps,assign:=assign,body:=body,defers:=w.heap.size})).heap[b]? =Ft x:=fun b x hb=>
    (alloc_old (xt.1 hb).1).trans hb
   refine⟨w.heap.size::rs,by rw[r1];rfl,?_,?_⟩
   .grind
   .intro r hr;rcases xI.1 hr with rfl | hr
    .exact ⟨hold _ _ (heap_alloc_new w _),fun hs=>by have:=hh.slt _ hs;lia,fm⟩
    .exact ⟨hold _ _ ((alloc_old (xt.1 (r3 r hr).1).1).trans (r3 r hr).1),(r3 r hr).2⟩
 | some l0=>
  have⟨r0,lY⟩:=cO l0 rfl;have⟨k1,k2⟩:=lay w r0.defers Calm.refl bV;refine⟨w.heap.size,[],_,?_,k1,k2,bD,?_,yu _⟩
  .simp [Instr.enterLoop,IJ lY,newObj,Sem.run]
  .exact BR hh k2 bV
def avJ(hO:iw O)(hC:oV O self){h:Nat}{f:xr}{ps:Array Tmp}{assign body:vz}{as_ b':VC}(Wz:CS O.P (O.hint h) as_ assign)(WA:CS O.P (O.hint h) b' body)(ja:AS (O.hint h).n ps.toList=ydh){s:St}{ex:Ex}{s':St}(hv:bt O.prog O.aI self (.rf (aK (O.hint h) f) ps.toList as_ b') s=Ft (ex,s')):Cp O h (.rangeFunc f ps assign body) s ex s':=by
 intro ro lo m S w a cO ht hh hb hn bc fm bV;simp only[bt] at hv
 split at hv
 case h_2=>cases hv
 rename_i n first cap hx
 split at hv
 case h_1=>cases hv
 rename_i hL
 cases he:iv O.prog O.aI self ((s.ct,.lp s.tm ps.toList as_ b' 0 .none)::s.hp) (s.ct+1) n (first++(.fn (.y s.ct) [] []::cap)) with
 | none=>simp[he] at hv
 | some q=>
  have⟨v,aY,pT⟩:=q;simp only[he] at hv
  split at hv
  case h_2=>cases hv
  rename_i kU rh Lj J5 st pe Hh
  cases aT:ym st 1 with
  | true=>rw[aT] at hv;cases hv
  | false=>
   rw[aT] at hv;simp only[yO] at hv;refine wpIn_rangeFunc (fun fn _=>?_);have⟨l,mark,w1,e1,e2,e3,e4,e5,e6⟩:=am5 (ro:=ro) fn ps assign body hh ht cO Wz WA hn ja fm bV;have rf:=bQ (hO.hint h) ht f;rw[hx] at rf;simp only[ae] at rf;have⟨fi,ca,hf,r2,r3⟩:=rf;have hle:=jD e4 (p:=⟨l,0,0,0⟩);have Gx:fR S w w1:=fun b hb=>e3.still b hb
   have eA:az O.ab (fy m s.ct ⟨l,0,0,0⟩) S w1 (first++(.fn (.y s.ct) [] []::cap)) (fi++#[Value.func (.yield l) #[] #[]]++ca).toList:=by
    have:=mi (ij hle (fun _ h=>h) Gx _ _ r2) (mi (a:=[.fn (.y s.ct) [] []]) (x:=[Value.func (.yield l) #[] #[]]) (by
     simp only[az]
     exact⟨_,[],rfl,by simp only[ae];exact⟨_,du,rfl⟩,rfl⟩) (ij hle (fun _ h=>h) Gx _ _ r3))
    grind
   have Uh:=hC.heap _ _ _ _ _ _ _ he _ S w1 _ e2 eA;have hP:∃F,O.prog n=Ft F:=by
    unfold iv at he;rw[hL] at he
    cases hq:O.prog n with
    | none=>simp[hq] at he
    | some F=>exact⟨F,rfl⟩
   have⟨F,hF⟩:=hP;have⟨fn',q1,q2,q3⟩:=hO.prog n F hF;have⟨cb,q4,_⟩:=Q7 q2;have fA:(callFunc (O.ab n) (fi++#[Value.func (.yield l) #[] #[]]++ca)).run O.P w1=.ok (.enter (O.ab n) (fi++#[Value.func (.yield l) #[] #[]]++ca)) w1:=I1 q1 (by rw[q4];rfl) q3
   refine⟨l,mark,w1,{target:=.fn (.func (O.ab n)) ca,args:=fi++#[Value.func (.yield l) #[] #[]]},w1,O.ab n,fi++#[Value.func (.yield l) #[] #[]]++ca,w1,e1,?_,fun _ _=>trivial,?_,fun hd=>by simp[WF,Fence.wide] at hd,?_⟩
   .show Sem.run O.P (Deferred.ofValue (a.eval f) _) w1=_
    rw[hf];simp[Deferred.ofValue,Act.eval]
   .simp only [invoke];exact fA
   .rcases Uh with ⟨_,Uh⟩ | ⟨u,w',h1,_⟩
    case inr=>rw[fA] at h1;cases h1
    have arU:CallsIn (WF ro) 0 O.P (O.ab n) (fi++#[Value.func (.yield l) #[] #[]]++ca) w1 (AB O (fy m s.ct ⟨l,0,0,0⟩) S w1 ((s.ct,.lp s.tm ps.toList as_ b' 0 .none)::s.hp) (s.ct+1) v aY pT):=Uh;refine CallsIn.mono arU ?_;rintro e w3 ⟨u,m',S',rfl,k1,k2,k3,k4⟩;have iI:m' s.ct=Ft ⟨l,0,0,0⟩:=k4.old s.ct _ (yam _) du;have⟨r,Lx,d1,d2,d3,d4,d5,d6,_⟩:=Jd k1 Hh iI;have rz:(r.state==LoopState.busy)=ydi:=by
     rw[d3];rcases st with _ | _ | st
     .rfl
     .simp_all
     .have:st=0:=by lia
      subst this;rfl
    have fM:=Fy w3 l (.loop {r with state:=.exhausted});have P5:=aad k1 s.ct;have pR:¬dV m' (cC aY s.ct) l:=X7 k1 Hh iI
    have z1:aR O m' S' {w3 with heap:=w3.heap.setIfInBounds l (.loop {r with state:=.exhausted})} (VE.cC aY s.ct) pT:=YH P5 fM d2 pR (by have:=hh.fY;lia)
    have z2:bU m' S' w3 aY m' S' {w3 with heap:=w3.heap.setIfInBounds l (.loop {r with state:=.exhausted})} (VE.cC aY s.ct) s.base:=by
     refine⟨rfl,rfl,rfl,by rw[fM.size];exact yu _,fun b _ hb=>fM.other b (fun e=>hb (e▸Jm Hh iI)),fun _ h=>h,fun b hb=>fM.other b (fun e=>d2 (e▸hb)),fun b hb=>.inl hb,fun b hb=>.inl (aby hb),fun _ _ _ h=>h,fun b x hb=>?_⟩
     grind
    have UW:bU m S w s.hp m' S' {w3 with heap:=w3.heap.setIfInBounds l (.loop {r with state:=.exhausted})} (VE.cC aY s.ct) s.base:=
     ((e3.zO hb).trans (k4.zO (by lia))).trans z2
    have OO:(Instr.endLoop l).run O.P w3=.ok (AL pe) {w3 with heap:=w3.heap.setIfInBounds l (.loop {r with state:=.exhausted})}:=by
     simp only[Instr.endLoop,Sem.run_bind,IJ d1,Result.andThen_ok,rz,yC,xy,Sem.run_pure,ME (P:=O.P) d1 (fun _ _ _=>by simp),d5]
    have aeS:Marks lo S' {w3 with heap:=w3.heap.setIfInBounds l (.loop {r with state:=.exhausted})} (mark++a.defers):=BR k1 z2 (BR e2 k4 e5)
    have sU:bO O m' S' {w3 with heap:=w3.heap.setIfInBounds l (.loop {r with state:=.exhausted})} s.tm a.tmps:=by
     refine BP (fun id p hp=>?_) UW.sub (fun b hb=>UW.still b hb) ht;have h1:=hh.lt id p hp;exact k4.old id p (by lia) (hle id p hp)
    have post:∀WB,s'={s with hp:=VE.cC aY s.ct,ct:=pT}->ex=WB->eM O m S w s ex s' a.tmps.size lo (sj WB) {a with defers:=mark++a.defers} {w3 with heap:=w3.heap.setIfInBounds l (.loop {r with state:=.exhausted})}:=by
     rintro WB rfl rfl;exact⟨rfl,m',S',sU,z1,rfl,by show s.base<=pT;lia,UW,rfl,aeS⟩
    refine⟨_,_,OO,?_⟩
    cases pe with
    | none=>
     simp only[yb,yj] at hv;exact post .normal hv.2.symm hv.1.symm
    | ret=>
     simp only[yb,yj] at hv;exact wpIn_ret (post .ret hv.2.symm hv.1.symm)
    | exit id=>
     simp only[yb,yj] at hv;exact wpIn_exit (post (.exit id) hv.2.symm hv.1.symm)
end
end
def Le(f g:cd):Prop:=∀c s r,f c s=Ft r->g c s=Ft r
section
variable {P:aF}{L:Lib}{f g:cd}
def QX(h:Le f g)(n:Nat)(aq:List AV)(r:AV)(hr:bT P L f n aq=Ft r):bT P L g n aq=Ft r:=by
 unfold bT at hr ⊢
 cases hL:L.pure n with
 | some sp=>simpa only[hL] using hr
 | none=>
  simp only[hL] at hr ⊢
  cases hP:P n with
  | none=>simp[hP] at hr
  | some F=>
   simp only[hP] at hr ⊢
   cases hf:f F.body ⟨fg 0 aq,[],0,0⟩ with
   | none=>simp[hf] at hr
   | some q=>rw[h _ _ _ hf];simpa only[hf] using hr
def Q8(h:Le f g)(hp:Hp)(ct:Nat)(n:Nat)(aq:List AV)(r:AV×Hp×Nat)(hr:iv P L f hp ct n aq=Ft r):iv P L g hp ct n aq=Ft r:=by
 unfold iv at hr ⊢
 cases hL:L.heap n with
 | some sp=>simpa only[hL] using hr
 | none=>
  simp only[hL] at hr ⊢
  cases hP:P n with
  | none=>simp[hP] at hr
  | some F=>
   simp only[hP] at hr ⊢
   cases hf:f F.body ⟨fg 0 aq,hp,ct,ct⟩ with
   | none=>simp[hf] at hr
   | some q=>rw[h _ _ _ hf];simpa only[hf] using hr
def X1(h:Le f g)(hp:Hp)(ct:Nat)(l:Nat)(xs:List AV)(r:AV×Hp×Nat)(hr:fV f hp ct l xs=Ft r):fV g hp ct l xs=Ft r:=by
 unfold fV at hr ⊢
 cases hl:ai hp l with
 | none=>simp[hl] at hr
 | some o=>
  simp only[hl] at hr ⊢
  split at hr
  .rename_i tm ps as_ body pe lh
   cases hb:qC tm ps xs with
   | none=>simp[hb] at hr
   | some tm'=>
    simp only[hb] at hr ⊢
    cases h1:f as_ ⟨tm',hp,ct,ct⟩ with
    | none=>simp[h1] at hr
    | some q=>
     rw[h _ _ _ h1];simp only[h1] at hr ⊢
     split at hr
     .rename_i s1 axF
      split at hr
      .rename_i gh pM CR Eg nm axG
       cases h2:f body ⟨s1.tm,aU s1.hp l (.lp gh pM CR Eg 1 nm),s1.ct,s1.ct⟩ with
       | none=>simp[h2] at hr
       | some q2=>rw[h _ _ _ h2];simpa only[h2] using hr
      .simp at hr
     .simp at hr
  .simp at hr
def Yf(h:Le f g)(hp:Hp)(ct:Nat)(m:Md)(fv:AV)(xs:List AV)(r:AV×Hp×Nat)(hr:er P L f hp ct m fv xs=Ft r):er P L g hp ct m fv xs=Ft r:=by
 unfold er at hr ⊢
 split at hr
 .rename_i n first cap
  cases m with
  | pure=>
   cases hz:cu deep hp (first++(xs++cap)) with
   | none=>simp[hz] at hr
   | some q=>
    simp only[hz] at hr ⊢
    cases hc:bT P L f n q.1 with
    | none=>simp[hc] at hr
    | some u=>rw[QX h n q.1 u hc];simpa only[hc] using hr
  | own=>
   cases hz:cu deep hp (first++(xs++cap)) with
   | none=>simp[hz] at hr
   | some q=>
    simp only[hz] at hr ⊢
    cases hc:bT P L f n q.1 with
    | none=>simp[hc] at hr
    | some u=>rw[QX h n q.1 u hc];simpa only[hc] using hr
  | heap=>exact Q8 h _ _ _ _ _ hr
  | dyn=>
   cases hz:aD (first++(xs++cap)) with
   | true=>
    simp only[hz,yq] at hr ⊢
    cases hc:bT P L f n (first++(xs++cap)) with
    | none=>simp[hc] at hr
    | some u=>rw[QX h n _ u hc];simpa only[hc] using hr
   | false=>
    simp only[hz,yO] at hr ⊢;exact Q8 h _ _ _ _ _ hr
 .split at hr
  .exact X1 h _ _ _ _ _ hr
  .exact X1 h _ _ _ _ _ hr
  .simp at hr
 .simp at hr
def Zy(h:Le f g)(tm:Env)(hp:Hp)(ct:Nat)(o:Op)(r:AV×Hp×Nat)(hr:aX P L f tm hp ct o=Ft r):aX P L g tm hp ct o=Ft r:=by
 unfold aX at hr ⊢
 split at hr
 .exact Yf h _ _ _ _ _ _ hr
 .rename_i rs fv xs
  cases hc:er P L f hp ct .dyn (ay tm fv) (dA tm xs) with
  | none=>simp[hc] at hr
  | some q=>rw[Yf h _ _ _ _ _ _ hc];simpa only[hc] using hr
 all_goals simpa only using hr
def MF(h:Le f g):∀(ops:List aQ) (s s':St),cV P L f ops s=Ft s'->cV P L g ops s=Ft s'
 | [],s,s',hr=>by simpa only[cV] using hr
 | ⟨d,gd,o⟩::r,s,s',hr=>by
  simp only[cV] at hr ⊢
  split at hr
  .rename_i hw
   cases ho:aX P L f s.tm s.hp s.ct o with
   | none=>simp[ho] at hr
   | some q=>rw[Zy h _ _ _ _ _ ho];simp only[ho] at hr ⊢;exact MF h r _ _ hr
  .rename_i hw
   (try simp only[hw]);exact MF h r _ _ hr
  .simp at hr
def rN(h:Le f g):∀(c:VC) (s:St) (r:Ex×St),bt P L f c s=Ft r->bt P L g c s=Ft r
 | .skip,s,r,hr=>by simpa only[bt] using hr
 | .ju ops,s,r,hr=>by
  simp only[bt] at hr ⊢
  cases ho:cV P L f ops s with
  | none=>simp[ho] at hr
  | some s'=>rw[MF h _ _ _ ho];simpa only[ho] using hr
 | .seq a b,s,r,hr=>by
  simp only[bt] at hr ⊢
  cases ha:bt P L f a s with
  | none=>simp[ha] at hr
  | some q=>
   rw[rN h a s q ha];obtain⟨ex,s1⟩:=q
   cases ex with
   | normal=>simp only[ha] at hr ⊢;exact rN h b s1 r hr
   | ret=>simpa only[ha] using hr
   | exit id=>simpa only[ha] using hr
 | .cond x a b,s,r,hr=>by
  simp only[bt] at hr ⊢
  split at hr
  .rename_i t ht
   cases t with
   | true=>simp only[yq] at hr ⊢;exact rN h a s r hr
   | false=>simp only[yO] at hr ⊢;exact rN h b s r hr
  .simp at hr
 | .cX id a,s,r,hr=>by
  simp only[bt] at hr ⊢
  cases ha:bt P L f a s with
  | none=>simp[ha] at hr
  | some q=>rw[rN h a s q ha];simpa only[ha] using hr
 | .kp live,s,r,hr=>by simpa only[bt] using hr
 | .fz ts,s,r,hr=>by simpa only[bt] using hr
 | .loop live a,s,r,hr=>by
  simp only[bt] at hr ⊢
  cases ha:bt P L f a (br live s) with
  | none=>simp[ha] at hr
  | some q=>
   rw[rN h a _ q ha];obtain⟨ex,s1⟩:=q
   cases ex with
   | normal=>simp only[ha] at hr ⊢;exact h _ _ _ hr
   | ret=>simpa only[ha] using hr
   | exit id=>simpa only[ha] using hr
 | .rf fv ps as_ body,s,r,hr=>by
  simp only[bt] at hr ⊢
  split at hr
  .rename_i n first cap hx
   split at hr
   .grind
   .rename_i hL
    cases hc:iv P L f ((s.ct,.lp s.tm ps as_ body 0 .none)::s.hp) (s.ct+1) n (first++(.fn (.y s.ct) [] []::cap)) with
    | none=>simp[hc] at hr
    | some q=>rw[Q8 h _ _ _ _ _ hc];simpa only[hc] using hr
  .simp at hr
 | .exit id,s,r,hr=>by simpa only[bt] using hr
 | .ret,s,r,hr=>by simpa only[bt] using hr
end
def Je(P:aF)(L:Lib)(c:VC)(s:St):ev P L 0 c s=Fu:=rfl
def NC(P:aF)(L:Lib)(n:Nat):ev P L (n+1)=bt P L (ev P L n):=rfl
def adf(P:aF)(L:Lib):∀n,Le (ev P L n) (ev P L (n+1))
 | 0=>fun c s r h=>by rw[Je] at h;cases h
 | n+1=>fun c s r h=>by
  exact rN (adf P L n) c s r h
def S5(P:aF)(L:Lib){n m:Nat}(h:n<=m):Le (ev P L n) (ev P L m):=by
 induction h with
 | refl=>exact fun _ _ _ h=>h
 | step _ ih=>exact fun c s r hr=>adf P L _ c s r (ih c s r hr)
section
open Go
section
variable {ex:Ex}{lo n:Nat}{s:St}{w w':yi}
section
variable {O:bl}{self:cd}
def eM.none{m:Mp}{S:Nat->Prop}{s':St}{a:Act}(l:Nat):¬eM O m S w s ex s' n lo (.goto l) a w':=by
 rintro⟨h,_⟩;cases ex<;>cases h
def eM.then{m m1:Mp}{S S1:Nat->Prop}{w1:yi}{s1 s2:St}{a':Act}{e:uC}{ex1:Ex}(h1:s1.base=s.base)(hf:bU m S w s.hp m1 S1 w1 s1.hp s.base)(h:eM O m1 S1 w1 s1 ex s2 n lo e a' w'):eM O m S w s ex s2 n lo e a' w':=by
 have⟨h2,m',S',k1,k2,k3,k4,k5,k6,k7⟩:=h;rw[h1] at k3 k4 k5;exact⟨h2,m',S',k1,k2,k3,k4,hf.trans k5,k6,k7⟩
def eM.bE{m:Mp}{S:Nat->Prop}{s1:St}{a':Act}{e:uC}(live:List Nat)(h:eM O m S w s ex s1 n lo e a' w'):eM O m S w s ex (br live s1) n lo e a' w':=by
 have⟨h2,m',S',k1,k2,k3,k4,k5,k6,k7⟩:=h;have⟨m2,g1,g2,g3,g4,g5⟩:=Rk (live:=live) k1 k2 (by rw[k3];exact k4)
 rw[k3] at g3 g4 g5;exact⟨h2,m2,S',g1,g2,g3,g4,k5.trans g5,k6,BR k2 g5 k7⟩
def adg{m:Mp}{w:yi}{tmps:Array yg}:∀{ts:List Nat} {s s1:St} {S:Nat->Prop},bO O m S w s.tm tmps->aR O m S w s.hp s.ct->qH ts s=Ft s1->
  ∃S1,bO O m S1 w s1.tm tmps/\aR O m S1 w s1.hp s1.ct/\s1.base=s.base/\s1.ct=s.ct/\∀base,bU m S w s.hp m S1 w s1.hp base
 | [],s,s1,S,ht,hh,h=>by
  simp only[qH,yb] at h;subst h;exact⟨S,ht,hh,rfl,rfl,fun _=>bU.refl⟩
 | t::r,s,s1,S,ht,hh,h=>by
  simp only[qH] at h
  cases hz:freeze deep s.hp (ak s.tm t) with
  | none=>simp[hz] at h
  | some q=>
   have⟨v,hp⟩:=q;simp only[hz] at h;have⟨h1,h2,h3⟩:=RL (O:=O) hz;have hg:jj s.hp s.ct hp s.ct:=⟨h1,yu _,fun id o ho=>(by
     have:=h2 id
     rw[ho] at this
     cases hq:ai s.hp id with
     | none=>rw[hq] at this;simp at this
     | some o'=>exact hh.aM id o' hq),fun id o ho _=>(by
     have:=h2 id
     rw[ho] at this
     cases hq:ai s.hp id with
     | none=>rw[hq] at this;simp at this
     | some o'=>exact⟨o',rfl⟩)⟩
   have⟨S',k1,k2,k3,k4⟩:=Nb hh hg;have sU:bO O m S' w ((t,v)::s.tm) tmps:=by
    intro i;simp only[ak]
    cases hb:ym t i with
    | true=>
     have:=yf hb
     subst this;exact (h3 hp m S' w s.ct cJ.refl k1).1 _ (mo (fun _ _ h=>h) k2 (fun _ _=>rfl) _ _ (ht t))
    | false=>
     exact mo (fun _ _ h=>h) k2 (fun _ _=>rfl) _ _ (ht i)
   have⟨S1,g1,g2,g3,g4,g5⟩:=adg (s:={s with tm:=(t,v)::s.tm,hp:=hp}) sU k1 h;exact⟨S1,g1,g2,g3,g4,fun base=>(k4 base).trans (g5 base)⟩
def abE(hO:iw O)(n:Nat)(hC:∀k,k<=n->oV O (ev O.prog O.aI k))(h:Nat):∀(c:vz) (l k:Nat) (j:Nat),j<=n->∀(s:St) (ex:Ex) (s':St),
  bt O.prog O.aI (ev O.prog O.aI j) (comp O.P (O.hint h) c l k).1 s=Ft (ex,s')->Cp O h c s ex s':=by
 have refl:∀{s:St} {ex:Ex} {m:Mp} {S:Nat->Prop} {w:yi} {a:Act} {lo:Nat},bO O m S w s.tm a.tmps->aR O m S w s.hp s.ct->s.base<=s.ct->Marks lo S w a.defers->eM O m S w s ex s a.tmps.size lo (sj ex) a w:=
  fun h1 h2 h3 h4=>⟨rfl,_,_,h1,h2,rfl,h3,bU.refl,rfl,h4⟩
 have UX:∀{self:cd} {s:St} {r:Ex×St},bt O.prog O.aI self (.ju [⟨Fu,Fu,bad⟩]) s=Ft r->False:=by
  intro self s r hv;simp[bt,cV,bad,aX,er,ay] at hv
 intro c
 induction c with
 | skip=>
  intro l k j hj s ex s' hv ro lo m S w a cO ht hh hb hn bc fm bV;simp only[comp,bt,yb,yj] at hv;obtain⟨rfl,rfl⟩:=hv;exact wpIn_skip (refl ht hh hb bV)
 | label x=>
  intro l k j hj s ex s' hv ro lo m S w a cO ht hh hb hn bc fm bV;simp only[comp,bt,yb,yj] at hv;obtain⟨rfl,rfl⟩:=hv;exact wpIn_label (refl ht hh hb bV)
 | exit id=>
  intro l k j hj s ex s' hv ro lo m S w a cO ht hh hb hn bc fm bV;simp only[comp,bt,yb,yj] at hv;obtain⟨rfl,rfl⟩:=hv
  exact wpIn_exit (refl (ex:=.exit id) ht hh hb bV)
 | ret=>
  intro l k j hj s ex s' hv ro lo m S w a cO ht hh hb hn bc fm bV;simp only[comp,bt,yb,yj] at hv;obtain⟨rfl,rfl⟩:=hv
  exact wpIn_ret (refl (ex:=.ret) ht hh hb bV)
 | goto x=>intro l k j hj s ex s' hv;exact (UX (by simpa only[comp] using hv)).elim
 | refuse x=>intro l k j hj s ex s' hv;exact (UX (by simpa only[comp] using hv)).elim
 | region id ops d=>
  intro l k j hj s ex s' hv;simp only[comp] at hv;generalize hq:Nt O.P (O.hint h) ops d k=q at hv;have⟨r,k'⟩:=q;have main:∀{s s':St} {ex:Ex},bt O.prog O.aI (ev O.prog O.aI j) (.ju r) s=Ft (ex,s')->Cp O h (.region id ops d) s ex s':=by
   intro s s' ex hv;simp only[bt] at hv
   cases ho:cV O.prog O.aI (ev O.prog O.aI j) r s with
   | none=>simp[ho] at hv
   | some s1=>
    simp only[ho,yb,yj] at hv;obtain⟨rfl,rfl⟩:=hv;exact arT hO (hC j hj) h id ops d k (by rw[hq];exact ho)
  simp only at hv
  split at hv
  .exact main hv
  .rename_i t ts _;simp only[bt] at hv
   cases hf:qH (t::ts) s with
   | none=>simp[hf] at hv
   | some s1=>
    simp only[hf] at hv;intro ro lo m S w a cO ht hh hb hn bc fm bV;have⟨S1,g1,g2,g3,g4,g5⟩:=adg ht hh hf;have h1:=main (s:=s1) (by simpa only[bt] using hv) ro lo m S1 w a cO g1 g2 (by rw[g3,g4];exact hb) hn bc fm (BR hh (g5 s.base) bV)
    refine wpIn_mono h1 (fun e a' w' hp=>?_)
    exact eM.then (ex1:=.normal) g3 (g5 s.base) hp
 | seq x y ihx ihy=>
  intro l k j hj s ex s' hv ro lo m S w a cO ht hh hb hn bc fm bV;simp only[comp] at hv;generalize Af:comp O.P (O.hint h) x l k=qx at hv;have⟨x',l1,k1⟩:=qx;simp only at hv;generalize Ly:comp O.P (O.hint h) y l1 k1=qy at hv;have⟨y',l2,k2⟩:=qy;simp only[bt] at hv
  cases hx:bt O.prog O.aI (ev O.prog O.aI j) x' s with
  | none=>simp[hx] at hv
  | some r=>
   have⟨ex1,s1⟩:=r;have h1:=ihx l k j hj s ex1 s1 (by rw[Af];exact hx) ro lo m S w a cO ht hh hb hn bc fm bV
   refine wpIn_seq (wpIn_mono h1 ?_);rintro e a1 w1 ⟨rfl,m1,S1,g1,g2,g3,g4,g5,g6,g7⟩;have stop:ex1≠.normal->ex=ex1/\s'=s1:=by
    intro ek;rw[hx] at hv
    cases ex1 with
    | normal=>exact absurd rfl ek
    | ret=>simp only[yb,yj] at hv;exact⟨hv.1.symm,hv.2.symm⟩
    | exit id=>simp only[yb,yj] at hv;exact⟨hv.1.symm,hv.2.symm⟩
   cases ex1 with
   | normal=>
    simp only[hx] at hv;simp only[sj,Exit.then];have h2:=ihy l1 k1 j hj s1 ex s' (by rw[Ly];exact hv) ro lo m1 S1 w1 a1 (MY g5 cO) g1 g2 (by rw[g3];exact g4) (by rw[g6];exact hn) bc (xo fm g5.size) g7
    rw[g6] at h2
    exact wpIn_mono h2 (fun e a' w' hp=>eM.then (ex1:=.normal) g3 g5 hp)
   | ret=>
    obtain⟨rfl,rfl⟩:=stop (by simp);exact⟨rfl,m1,S1,g1,g2,g3,g4,g5,g6,g7⟩
   | exit id=>
    obtain⟨rfl,rfl⟩:=stop (by simp);exact⟨rfl,m1,S1,g1,g2,g3,g4,g5,g6,g7⟩
 | cond x p q ihp ihq=>
  intro l k j hj s ex s' hv ro lo m S w a cO ht hh hb hn bc fm bV;simp only[comp] at hv;generalize Af:comp O.P (O.hint h) p (l+1) k=qx at hv;have⟨p',l1,k1⟩:=qx;simp only at hv;generalize Ly:comp O.P (O.hint h) q l1 k1=qy at hv;have⟨q',l2,k2⟩:=qy;simp only at hv;have main:∀(ex:Ex) (s':St),bt O.prog O.aI (ev O.prog O.aI j) (.cond (aK (O.hint h) x) p' q') s=Ft (ex,s')->(Code.cond x p q).wpIn (WF ro) 0 O.P (eM O m S w s ex s' a.tmps.size lo) a w:=by
   intro ex s' hv;simp only[bt] at hv;have rx:=bQ (hO.hint h) ht x
   split at hv
   .rename_i t hx;rw[hx] at rx;simp only[ae] at rx
    cases t with
    | true=>
     simp only[yq] at hv;exact wpIn_cond_true rx (ihp (l+1) k j hj s ex s' (by rw[Af];exact hv) ro lo m S w a cO ht hh hb hn bc fm bV)
    | false=>
     simp only[yO] at hv;exact wpIn_cond_false rx (ihq l1 k1 j hj s ex s' (by rw[Ly];exact hv) ro lo m S w a cO ht hh hb hn bc fm bV)
   .cases hv
  cases Gy:(O.hint h).out l with
  | none=>rw[Gy] at hv;exact main ex s' hv
  | some live=>
   rw[Gy] at hv;simp only at hv;rw[show bt O.prog O.aI (ev O.prog O.aI j) (.seq (.cond (aK (O.hint h) x) p' q') (.kp live)) s=match bt O.prog O.aI (ev O.prog O.aI j) (.cond (aK (O.hint h) x) p' q') s with | some (.normal,s1)=>Ft (.normal,br live s1) | r=>r from rfl] at hv
   cases hx:bt O.prog O.aI (ev O.prog O.aI j) (.cond (aK (O.hint h) x) p' q') s with
   | none=>simp[hx] at hv
   | some r=>
    have⟨ex1,s1⟩:=r;have h1:=main ex1 s1 hx;rw[hx] at hv
    cases ex1 with
    | normal=>
     simp only[yb,yj] at hv;obtain⟨rfl,rfl⟩:=hv;exact wpIn_mono h1 (fun e a' w' hp=>eM.bE live hp)
    | ret=>simp only[yb,yj] at hv;obtain⟨rfl,rfl⟩:=hv;exact h1
    | exit id=>simp only[yb,yj] at hv;obtain⟨rfl,rfl⟩:=hv;exact h1
 | block id x ih=>
  intro l k j hj s ex s' hv ro lo m S w a cO ht hh hb hn bc fm bV;simp only[comp] at hv;generalize Af:comp O.P (O.hint h) x l k=qx at hv;have⟨x',r⟩:=qx;simp only at hv;have main:∀(ex:Ex) (s':St),bt O.prog O.aI (ev O.prog O.aI j) (.cX id x') s=Ft (ex,s')->(Code.block id x).wpIn (WF ro) 0 O.P (eM O m S w s ex s' a.tmps.size lo) a w:=by
   intro ex s' hv;simp only[bt] at hv
   cases hx:bt O.prog O.aI (ev O.prog O.aI j) x' s with
   | none=>simp[hx] at hv
   | some q=>
    have⟨ex1,s1⟩:=q;have h1:=ih l k j hj s ex1 s1 (by rw[Af];exact hx) ro lo m S w a cO ht hh hb hn bc fm bV
    refine wpIn_block (wpIn_mono h1 ?_);rintro e a1 w1 ⟨rfl,g⟩
    cases ex1 with
    | normal=>
     simp only[hx,yb,yj] at hv;obtain⟨rfl,rfl⟩:=hv;exact⟨rfl,g⟩
    | ret=>
     simp only[hx,yb,yj] at hv;obtain⟨rfl,rfl⟩:=hv;exact⟨rfl,g⟩
    | exit i=>
     simp only[hx] at hv
     cases P6:ym i id with
     | true=>
      rw[P6] at hv;simp only[yq,yb,yj] at hv;obtain⟨rfl,rfl⟩:=hv
      have:=yf P6
      subst this;simp only[sj,Exit.inBlock,xQ];exact⟨rfl,g⟩
     | false=>
      rw[P6] at hv;simp only[yO,yb,yj] at hv;obtain⟨rfl,rfl⟩:=hv;have ek:i≠id:=fun e=>by subst e;simp at P6
      simp only[sj,Exit.inBlock,ek,xy];exact⟨rfl,g⟩
  have avK:∀live:List Nat,bt O.prog O.aI (ev O.prog O.aI j) (.seq (.cX id x') (.kp live)) s=Ft (ex,s')->(Code.block id x).wpIn (WF ro) 0 O.P (eM O m S w s ex s' a.tmps.size lo) a w:=by
   intro live hv;rw[show bt O.prog O.aI (ev O.prog O.aI j) (.seq (.cX id x') (.kp live)) s=match bt O.prog O.aI (ev O.prog O.aI j) (.cX id x') s with | some (.normal,s1)=>Ft (.normal,br live s1) | r=>r from rfl] at hv
   cases hx:bt O.prog O.aI (ev O.prog O.aI j) (.cX id x') s with
   | none=>simp[hx] at hv
   | some r=>
    have⟨ex1,s1⟩:=r;have h1:=main ex1 s1 hx;rw[hx] at hv
    cases ex1 with
    | normal=>
     simp only[yb,yj] at hv;obtain⟨rfl,rfl⟩:=hv;exact wpIn_mono h1 (fun e a' w' hp=>eM.bE live hp)
    | ret=>simp only[yb,yj] at hv;obtain⟨rfl,rfl⟩:=hv;exact h1
    | exit id=>simp only[yb,yj] at hv;obtain⟨rfl,rfl⟩:=hv;exact h1
  split at hv
  .exact avK _ hv
  .exact main ex s' hv
 | loop x ih=>
  intro l k j hj s ex s' hv;simp only[comp] at hv;generalize Af:comp O.P (O.hint h) x (l+1) k=qx at hv;have⟨x',r⟩:=qx;simp only at hv;have rounds:∀(j:Nat),j<=n->∀(s:St) (ex:Ex) (s':St),bt O.prog O.aI (ev O.prog O.aI j) (.loop ((O.hint h).live l) x') s=Ft (ex,s')->∃K,∀(ro:Option Nat) (lo:Nat) (m:Mp) (S:Nat->Prop) (w:yi) (a:Act),AM ro w->bO O m S w s.tm a.tmps->aR O m S w s.hp s.ct->s.base<=s.ct->(O.hint h).n<=a.tmps.size->O.w0.heap.size<=lo->lo<=w.heap.size->Marks lo S w a.defers->
    Code.roundsIn (WF ro) 0 O.P x (eM O m S w s ex s' a.tmps.size lo) K a w:=by
   intro j
   induction j with
   | zero=>
    intro hj s ex s' hv;simp only[bt] at hv
    cases hx:bt O.prog O.aI (ev O.prog O.aI 0) x' (br ((O.hint h).live l) s) with
    | none=>simp[hx] at hv
    | some q=>
     have⟨ex1,s1⟩:=q;have stop:ex1≠.normal->ex=ex1/\s'=s1:=by
      intro ek;rw[hx] at hv
      cases ex1 with
      | normal=>exact absurd rfl ek
      | ret=>simp only[yb,yj] at hv;exact⟨hv.1.symm,hv.2.symm⟩
      | exit id=>simp only[yb,yj] at hv;exact⟨hv.1.symm,hv.2.symm⟩
     refine⟨1,fun ro lo m S w a cO ht hh hb hn bc fm bV=>?_⟩;rw[roundsIn_succ];have⟨m1,c1,c2,c3,c4,c5⟩:=Rk (live:=(O.hint h).live l) ht hh hb;have h1:=ih (l+1) k 0 hj _ ex1 s1 (by rw[Af];exact hx) ro lo m1 S w a cO c1 c2 (by rw[c3];exact c4) hn bc fm bV
     refine wpIn_mono h1 ?_;rintro e a1 w1 hp;have an:=eM.then (O:=O) (m:=m) (S:=S) (w:=w) (s:=s) (ex1:=.normal) c3 c5 hp;obtain⟨rfl,_⟩:=hp
     cases ex1 with
     | normal=>simp only[hx,Je] at hv;cases hv
     | ret=>obtain⟨rfl,rfl⟩:=stop (by simp);exact an
     | exit id=>obtain⟨rfl,rfl⟩:=stop (by simp);exact an
   | succ j ihj=>
    intro hj s ex s' hv;simp only[bt] at hv
    cases hx:bt O.prog O.aI (ev O.prog O.aI (j+1)) x' (br ((O.hint h).live l) s) with
    | none=>simp[hx] at hv
    | some q=>
     have⟨ex1,s1⟩:=q;have stop:ex1≠.normal->ex=ex1/\s'=s1:=by
      intro ek;rw[hx] at hv
      cases ex1 with
      | normal=>exact absurd rfl ek
      | ret=>simp only[yb,yj] at hv;exact⟨hv.1.symm,hv.2.symm⟩
      | exit id=>simp only[yb,yj] at hv;exact⟨hv.1.symm,hv.2.symm⟩
     have more:∃K,ex1=.normal->∀(ro:Option Nat) (lo:Nat) (m:Mp) (S:Nat->Prop) (w:yi) (a:Act),AM ro w->bO O m S w s1.tm a.tmps->aR O m S w s1.hp s1.ct->s1.base<=s1.ct->(O.hint h).n<=a.tmps.size->O.w0.heap.size<=lo->lo<=w.heap.size->Marks lo S w a.defers->
       Code.roundsIn (WF ro) 0 O.P x (eM O m S w s1 ex s' a.tmps.size lo) K a w:=by
      cases ex1 with
      | normal=>
       rw[hx] at hv;have fa:ev O.prog O.aI (j+1) (.loop ((O.hint h).live l) x') s1=Ft (ex,s'):=hv;rw[NC] at fa;have⟨K,hK⟩:=ihj (by lia) s1 ex s' fa;exact⟨K,fun _=>hK⟩
      | ret=>exact⟨0,fun h=>by cases h⟩
      | exit id=>exact⟨0,fun h=>by cases h⟩
     have⟨K,hK⟩:=more;refine⟨K+1,fun ro lo m S w a cO ht hh hb hn bc fm bV=>?_⟩;rw[roundsIn_succ];have⟨m1,c1,c2,c3,c4,c5⟩:=Rk (live:=(O.hint h).live l) ht hh hb;have h1:=ih (l+1) k (j+1) hj _ ex1 s1 (by rw[Af];exact hx) ro lo m1 S w a cO c1 c2 (by rw[c3];exact c4) hn bc fm bV
     refine wpIn_mono h1 ?_;rintro e a1 w1 hp;have an:=eM.then (O:=O) (m:=m) (S:=S) (w:=w) (s:=s) (ex1:=.normal) c3 c5 hp;obtain⟨rfl,_⟩:=hp
     cases ex1 with
     | normal=>
      simp only[sj,Exit.then];have⟨_,m2,S2,g1,g2,g3,g4,g5,g6,g7⟩:=an;have h2:=hK rfl ro lo m2 S2 w1 a1 (MY g5 cO) g1 g2 (by rw[g3];exact g4) (by rw[g6];exact hn) bc (xo fm g5.size) g7
      rw[g6] at h2;revert h2;generalize hA:a.tmps.size=sz;intro h2;have step:∀(K:Nat) (a':Act) (w':yi),Code.roundsIn (WF ro) 0 O.P x (eM O m2 S2 w1 s1 ex s' sz lo) K a' w'->Code.roundsIn (WF ro) 0 O.P x (eM O m S w s ex s' sz lo) K a' w':=by
       intro K
       induction K with
       | zero=>intro a' w' C0;exact C0
       | succ K ihK=>
        intro a' w' C0;rw[roundsIn_succ] at C0 ⊢;refine wpIn_mono C0 (fun e a'' PV hq=>?_)
        cases e with
        | normal=>exact ihK a'' PV hq
        | exit id=>exact eM.then (ex1:=.normal) g3 g5 hq
        | goto x=>exact eM.then (ex1:=.normal) g3 g5 hq
        | ret=>exact eM.then (ex1:=.normal) g3 g5 hq
        | panic x=>exact eM.then (ex1:=.normal) g3 g5 hq
        | outgrown=>exact eM.then (ex1:=.normal) g3 g5 hq
      exact step K a1 w1 h2
     | ret=>obtain⟨rfl,rfl⟩:=stop (by simp);exact an
     | exit id=>obtain⟨rfl,rfl⟩:=stop (by simp);exact an
  have⟨K,hK⟩:=rounds j hj s ex s' hv;intro ro lo m S w a cO ht hh hb hn bc fm bV;exact wpIn_loop_rounds K (hK ro lo m S w a cO ht hh hb hn bc fm bV)
 | scope x ih=>
  intro l k j hj s ex s' hv ro lo m S w a cO ht hh hb hn bc fm bV;simp only[comp] at hv;exact aj6 (ih l k j hj s ex s' hv ro lo m S w a cO ht hh hb hn bc fm bV) (fun l a w=>eM.none l)
 | rangeFunc f ps as_ body iha ihb=>
  intro l k j hj s ex s' hv;simp only[comp] at hv;generalize Af:comp O.P (O.hint h) as_ l k=qx at hv;have⟨x',l1,k1⟩:=qx;simp only at hv;generalize Ly:comp O.P (O.hint h) body l1 k1=qy at hv;have⟨y',l2,k2⟩:=qy;simp only at hv
  cases ha:AS (O.hint h).n ps.toList with
  | false=>rw[ha] at hv;exact (UX hv).elim
  | true=>
   rw[ha] at hv;exact avJ hO (hC j hj) ⟨l,k,by rw[Af]⟩ ⟨l1,k1,by rw[Ly]⟩ ha hv
end
end
end
section
open Go
section
variable {v:AV}{args:Array yg}{aq:List AV}{n:Nat}{s:St}
section
variable {O:bl}{m:Mp}{S:Nat->Prop}{w:yi}
def Zz:∀(aq:List AV) (j i:Nat),ak (fg j aq) (j+i)=aq.getD i .undef
 | [],j,i=>by simp[fg,ak]
 | v::r,j,i=>by
  cases i with
  | zero=>simp[fg,ak]
  | succ i=>
   simp only[fg,ak];have hb:ym j (j+(i+1))=ydi:=by
    cases hq:ym j (j+(i+1)) with
    | false=>rfl
    | true=>have:=yf hq;lia
   rw[hb,show j+(i+1)=j+1+i by lia];rw[Zz r (j+1) i]
   simp
def ZA(n:Nat)(h:az O.ab m S w aq args.toList):bO O m S w (fg 0 aq) (args++uD n undef):=by
 intro i
 have:=Zz aq 0 i
 rw[yd] at this;rw[this,yD]
 cases hv:aq[i]? with
 | none=>simp only[Option.getD_none,ae]
 | some v=>
  have⟨u,h1,h2⟩:=Se h hv;have hl:i<args.size:=by
   grind
  have:(args++uD n undef).getD i undef=u:=by
   rw[wv,yax hl]
   grind
  grind
def Gz(tmps:Array yg):ycN->Sem yg
 | .tmp t=>pure (tmps.getD t undef)
 | .cell a t=>do loadVar t (<-asAddr (tmps.getD a undef))
def aj7(fn:yaO)(tmps:Array yg):results fn tmps=(do let vs <-fn.results.mapM (Gz tmps);pure (if h:vs.size=1 then vs[0] else .tuple vs)):=by
 rfl
def Ro{s:St}{ct:Nat}{tmps:Array yg}(hh:aR O m S w s.hp ct)(ht:bO O m S w s.tm tmps):∀{rs:List ycN} {rv:List RV} {vs:List AV},qj O.P rs=Ft rv->ml s rv=Ft vs->
  ∃us,(rs.mapM (Gz tmps)).run O.P w=.ok us w/\az O.ab m S w vs us
 | [],rv,vs,h1,h2=>by
  simp only[qj,yb] at h1;subst h1;simp only[ml,yb] at h2;subst h2;exact⟨[],by simp,by simp[az]⟩
 | .tmp t::rs,rv,vs,h1,h2=>by
  simp only[qj] at h1
  cases hc:qj O.P rs with
  | none=>simp[hc] at h1
  | some l=>
   simp only[hc,yb] at h1;subst h1;simp only[ml,results1] at h2
   cases hl:ml s l with
   | none=>simp[hl] at h2
   | some Li=>
    simp only[hl,yb] at h2;subst h2;have⟨us,g1,g2⟩:=Ro hh ht hc hl;refine⟨tmps.getD t undef::us,?_,by simp only[az];exact⟨_,_,rfl,ht t,g2⟩⟩
    rw[uO];simp only[Gz,Sem.run_bind,Sem.run_pure,Result.andThen_ok];rw[g1];rfl
 | .cell a t::rs,rv,vs,h1,h2=>by
  simp only[qj] at h1
  cases hz:bZ O.P t with
  | none=>simp[hz] at h1
  | some sz=>
   cases z8:dc O.P t with
   | none=>simp[hz,z8] at h1
   | some ag=>
    cases hc:qj O.P rs with
    | none=>simp[hz,z8,hc] at h1
    | some l=>
     simp only[hz,z8,hc,yb] at h1;subst h1;simp only[ml] at h2
     cases eZ:results1 s (.cell a sz ag) with
     | none=>simp[eZ] at h2
     | some v=>
      cases hl:ml s l with
      | none=>simp[eZ,hl] at h2
      | some Li=>
       simp only[eZ,hl,yb] at h2;subst h2;have⟨us,g1,g2⟩:=Ro hh ht hc hl;have ra:=ht a;have key:∃b o u,tmps.getD a undef=.pointer (Ft ⟨b,o,Fu⟩)/\(loadVar t ⟨b,o,Fu⟩).run O.P w=.ok u w/\ae O.ab m S w v u:=by
        simp only[results1] at eZ;cases Lz:ak s.tm a<;>rw[Lz] at eZ ra<;>simp only[reduceCtorEq] at eZ
        .rename_i id o;simp only[ae] at ra;have⟨p,hm,hp⟩:=ra
         cases hg:ai s.hp id with
         | none=>simp[hg] at eZ
         | some ob=>
          cases ob<;>simp only[hg,reduceCtorEq] at eZ
          have WC:=Sd (o:=0) (n:=0) hh hg hm;have⟨u,q1,q2⟩:=Nw hz z8 (rO o _ p.b p.o WC) eZ;exact⟨p.b,p.o+o,u,hp,q1,q2⟩
        .rename_i cs;simp only[ae] at ra;have⟨b,o,hp,_,_,WC⟩:=ra;have⟨u,q1,q2⟩:=Nw hz z8 WC eZ;exact⟨b,o,u,hp,q1,q2⟩
       have⟨b,o,u,q1,q2,q3⟩:=key;refine⟨u::us,?_,by simp only[az];exact⟨_,_,rfl,q3,g2⟩⟩
       rw[uO]
       have:(Gz tmps (.cell a t)).run O.P w=.ok u w:=by
        simp only[Gz];rw[q1];simp[asAddr,q2]
       rw[Sem.run_bind,this,Result.andThen_ok,Sem.run_bind,g1];rfl
def aju{ct:Nat}{tmps:Array yg}{fn:yaO}{rv:List RV}(hh:aR O m S w s.hp ct)(ht:bO O m S w s.tm tmps)(h1:qj O.P fn.results.toList=Ft rv)(h2:jc s rv=Ft v):
  ∃u,(results fn tmps).run O.P w=.ok u w/\ae O.ab m S w v u:=by
 unfold jc at h2
 cases hl:ml s rv with
 | none=>simp[hl] at h2
 | some vs=>
  have⟨us,g1,g2⟩:=Ro hh ht h1 hl;have hlen:=gR _ _ g2;have hm:(fn.results.mapM (Gz tmps)).run O.P w=.ok us.toArray w:=by
   rw[Array.mapM_eq_mapM_toList];simp[g1]
  have dM:(results fn tmps).run O.P w=.ok (if h:us.toArray.size=1 then us.toArray[0] else .tuple us.toArray) w:=by
   rw[aj7,Sem.run_bind,hm];rfl
  rw[hl] at h2
  split at h2
  .rename_i v' lh;simp only[yb] at lh h2;subst lh;simp only[az] at g2
   grind
  .rename_i ej ek lh;simp only[yb] at lh h2;subst lh;subst h2;have h1:¬us.toArray.size=1:=by
    intro h
    have:vs.length=1:=by simp_all
    cases vs with
    | nil=>simp at this
    | cons x t=>
     cases t with
     | nil=>exact ek x rfl
     | cons y t=>simp at this
   simp only[ae]
   grind
  .grind
def RQ{s:St}{tmps:Array yg}{fn:yaO}{rv:List RV}{v:AV}{m0:Mp}{S0:Nat->Prop}{w0:yi}{hp0:Hp}{P7:Nat}(h1:qj O.P fn.results.toList=Ft rv)(h2:jc s rv=Ft v)(gJ:P7<=s.ct):∀(rs:List Nat) (w:yi),
  rs.Nodup->(∀r,r∈rs->w.heap[r]? =Ft (.deferred (Ft []))/\¬S r/\w0.heap.size<=r)->O.w0.heap.size<=w0.heap.size->aR O m S w s.hp s.ct->bO O m S w s.tm tmps->bU m0 S0 w0 hp0 m S w s.hp P7->
  ycP Fence.wide 0 O.P fn tmps (AB O m0 S0 w0 hp0 P7 v s.hp s.ct) (rs.map (fun r=>{target:=.collected r,args:=#[]})) .returning w
 | [],w,_,_,_,hh,ht,hf=>by
  have⟨u,g1,g2⟩:=aju hh ht h1 h2;exact⟨u,g1,u,m,S,rfl,hh,gJ,g2,hf⟩
 | r::rs,w,lX,hr,bc,hh,ht,hf=>by
  have⟨mK,dK⟩:=List.nodup_cons.1 lX;have⟨a1,a2,a3⟩:=hr r wI;have fM:=Fy w r (.deferred Fu);have pR:¬dV m s.hp r:=fun ho=>aah hh ho _ a1
  have C0:=YH hh fM a2 pR (xo bc a3)
  have aT:fR S w {w with heap:=w.heap.setIfInBounds r (.deferred Fu)}:=fun b hb=>fM.other b (fun e=>a2 (e▸hb))
  have nt:bU m0 S0 w0 hp0 m S {w with heap:=w.heap.setIfInBounds r (.deferred Fu)} s.hp P7:=by
   refine⟨hf.os,hf.tape,hf.output,by rw[fM.size];exact hf.size,fun b hb ho=>(fM.other b (by lia)).trans (hf.same b hb ho),hf.sub,fun b hb=>(fM.other b (fun e=>a2 (e▸hf.sub b hb))).trans (hf.still b hb),hf.new,hf.own,hf.old,fun b x hb=>?_⟩
   have⟨x',hx⟩:=hf.loops b x hb;exact⟨x',(fM.other b (fun e=>by subst e;rw[a1] at hx;cases hx)).trans hx⟩
  refine⟨by simp,.inl ⟨r,_,rfl,?_,RQ h1 h2 gJ rs _ dK (fun r' bA=>?_) bc C0 (BP (fun _ _ h=>h) (fun _ h=>h) aT ht) nt⟩⟩
  .simp only [Instr.takeDeferred,Sem.run_bind,YI (P:=O.P) a1 (fun _ _ _=>by simp),Result.andThen_ok,ME (P:=O.P) a1 (fun _ _ _=>by simp),Sem.run_pure]
  .have ⟨b1,b2,b3⟩:=hr r' (xL _ bA);exact⟨(fM.other r' (fun e=>mK (e▸bA))).trans b1,b2,b3⟩
end
section
variable {O:bl}{self:cd}
def avL(hO:iw O)(hS:∀v s ex s',self v s=Ft (ex,s')->∀c h l k,(comp O.P (O.hint h) c l k).1=v->Cp O h c s ex s'){F:aC}(hF:O.prog n=Ft F){hp:Hp}{ct:Nat}{ex:Ex}(hv:self F.body ⟨fg 0 aq,hp,ct,ct⟩=Ft (ex,s))(hex:ex=.normal\/ex=.ret)(hr:jc s F.eb=Ft v):Co O n hp ct aq v s.hp s.ct:=by
 intro m S w args hh eA;have⟨fn,q1,q2,q3⟩:=hO.prog n F hF;have⟨c,q4,q5,q6,q7⟩:=Q7 q2;refine .inl ⟨I1 q1 (by rw[q4];rfl) q3,?_⟩
 have hc:=hS _ _ _ _ hv c n 0 0 q5.symm;have hw:=hc Fu w.heap.size m S w {tmps:=args++uD (fn.ntmps-args.size) undef,defers:=[]} (fun l hl=>by cases hl) (ZA _ eA) hh (yu _) (by simp;lia) hh.fY (yu _) ⟨[],rfl,by simp,by simp⟩
 refine callsIn_of_wp_marks (F:=Fence.wide) q1 q4 trivial (wpIn_mono hw ?_);rintro e a' w' ⟨rfl,m',S',k1,k2,k3,k4,k5,k6,rs,k7,k8,k9⟩;have main:ycP Fence.wide 0 O.P fn a'.tmps (AB O m S w hp ct v s.hp s.ct) a'.defers .returning w':=by
  rw[k7];exact RQ q6 hr k4 rs w' k8 k9 hh.fY k2 k1 k5
 rcases hex with rfl | rfl
 .exact main
 .exact main
def B0.mono{P:xm}{f:tW}{w:yi}{R R':yba->yi->Prop}(h:B0 P f args w R)(hr:∀e w',R e w'->R' e w'):B0 P f args w R':=by
 rcases h with ⟨h1,h2⟩ | ⟨u,w',h1,h2⟩
 .exact .inl ⟨h1,CallsIn.mono h2 hr⟩
 .exact .inr ⟨u,w',h1,hr _ _ h2⟩
def ak9{w:yi}{S:Nat->Prop}(hg:Cn O w)(hs:∀b,S b->b<w.heap.size):aR O eR S w [] 0:=
 ⟨(fun id o p h _=>by simp[ai] at h),(fun id p h=>by cases h),(fun i j oi oj pi pj h=>by simp[ai] at h),hs,(fun id p h=>by cases h),(fun id p h=>by cases h),hg.1,hg.2,(fun id o h=>by simp[ai] at h)⟩
def So{b:Nat}(h:dV eR [] b):False:=by
 have⟨_,_,_,h,_⟩:=h;simp[ai] at h
def Q1{r:AV}(h:Co O n [] 0 aq v s.hp s.ct)(hr:result s.hp v=Ft r):dZ O n aq r:=by
 intro w S args hg hs eA hp;refine B0.mono (h eR S w args (ak9 hg hs) eA) ?_;rintro e w' ⟨u,m',S',rfl,k1,k2,k3,k4⟩;have bc:∀b,dV m' s.hp b->w.heap.size<=b:=fun b hb=>(k4.own b hb).elim (fun h=>(So h).elim) (fun h=>h)
 have⟨S2,g1,g2,g3,g4⟩:=akZ (lo:=w.heap.size) k1 hr k3 bc;refine⟨u,S2,rfl,⟨k4.os,k4.tape,k4.output,k4.size,fun b hb=>k4.same b hb So⟩,fun b hb=>g1 b (k4.sub b hb),fun b hb=>?_,g3,g4⟩;rcases g2 b hb with h | h
 .rcases k4.new b h with h | h | h
  .exact .inl h
  .exact (So h).elim
  .exact .inr h
 .exact .inr (bc b h)
def aj8(hO:iw O)(hS:∀v s ex s',self v s=Ft (ex,s')->∀c h l k,(comp O.P (O.hint h) c l k).1=v->Cp O h c s ex s'):oV O self:=by
 have heap:∀(n:Nat) (F:aC),O.prog n=Ft F->∀(hp:Hp) (ct:Nat) (aq:List AV) (ex:Ex) (s:St) (v:AV),self F.body ⟨fg 0 aq,hp,ct,ct⟩=Ft (ex,s)->(ex=.normal\/ex=.ret)->jc s F.eb=Ft v->Co O n hp ct aq v s.hp s.ct:=
  fun n F hF hp ct aq ex s v h1 h2 h3=>avL hO hS hF h1 h2 h3
 refine⟨?_,?_,fun hp ct l xs v an aH hv=>am4 hS hv⟩
 .intro n aq r hv;unfold bT at hv
  cases hL:O.aI.pure n with
  | some sp=>rw[hL] at hv;exact hO.aI n sp aq r hL hv
  | none=>
   simp only[hL] at hv
   cases hF:O.prog n with
   | none=>simp[hF] at hv
   | some F=>
    simp only[hF] at hv
    split at hv
    .rename_i s hb
     cases hr:jc s F.eb with
     | none=>simp[hr] at hv
     | some v=>simp only[hr] at hv;exact Q1 (heap n F hF [] 0 aq .normal s v hb (.inl rfl) hr) hv
    .rename_i s hb
     cases hr:jc s F.eb with
     | none=>simp[hr] at hv
     | some v=>simp only[hr] at hv;exact Q1 (heap n F hF [] 0 aq .ret s v hb (.inr rfl) hr) hv
    .cases hv
 .intro hp ct n aq v an aH hv;unfold iv at hv
  cases hL:O.aI.heap n with
  | some sp=>rw[hL] at hv;exact hO.Gw n sp hp ct aq v an aH hL hv
  | none=>
   simp only[hL] at hv
   cases hF:O.prog n with
   | none=>simp[hF] at hv
   | some F=>
    grind
def Yg(hO:iw O):∀n,oV O (ev O.prog O.aI n):=by
 intro n
 induction n using vP with
 | _ n ih=>
  refine aj8 hO (fun v s ex s' hv c h l k hc=>?_)
  cases n with
  | zero=>rw[Je] at hv;cases hv
  | succ n=>
   rw[NC,<-hc] at hv;exact abE hO n (fun k hk=>ih k (by lia)) h c l k n (yu _) s ex s' hv
def sound(hO:iw O){f:Nat}{r:AV}(h:We O.prog O.aI n f aq=Ft r):dZ O f aq r:=(Yg hO n).pure f aq r h
end
end
end
def jI:List Nat->List Nat->Bool
 | [],_=>ydh
 | a::x,b::y=>ym a b&&jI x y
 | _::_,[]=>ydi
def rY(sub:List Nat):List Nat->Nat->Option Nat
 | [],k=>bif jI sub [] then Ft k else Fu
 | b::r,k=>bif jI sub (b::r) then Ft k else rY sub r (k+1)
def OP:List AV->Option AV
 | [.str s,.str sep]=>
  bif yI s.length 4294967281 then
   match rY sep s 0 with
   | some i=>Ft (.ax [.str (s.take i),.str (s.drop (i+sep.length)),.bool ydh])
   | none=>Ft (.ax [.str s,.str [],.bool ydi])
  else Fu
 | _=>Fu
def MG:List AV->Option AV
 | [.str s,.str p]=>Ft (bif jI p s then .ax [.str (s.drop p.length),.bool ydh] else .ax [.str s,.bool ydi])
 | _=>Fu
def MH:List AV->Option AV
 | [.str s,.str p]=>Ft (.bool (jI p s))
 | _=>Fu
def Mr:List AV->Option AV
 | [.str s,.str p]=>Ft (.str (bif jI p s then s.drop p.length else s))
 | _=>Fu
def OQ(i:Nat):List Nat->Bool
 | []=>ydi
 | j::r=>bif ym j i then ydh else OQ i r
def J9(set:List Nat):List Nat->List Nat
 | []=>[]
 | b::r=>bif OQ b set then J9 set r else b::r
def Jp:List Nat->Bool
 | []=>ydh
 | b::r=>yI b 128&&Jp r
def trimS:List AV->Option AV
 | [.str s,.str set]=>bif Jp set&&(yI s.length 4294967281&&yI set.length 4294967281) then Ft (.str (J9 set (J9 set s.reverse).reverse)) else Fu
 | _=>Fu
def iE(s:List Nat):Nat->List Nat
 | 0=>[]
 | n+1=>s++iE s n
def B1:List AV->Option AV
 | [.str s,.int .i64 (.ofNat n)]=>bif yA n 1099511627776&&yA (s.length*n) 1099511627776 then Ft (.str (iE s n)) else Fu
 | _=>Fu
def nP:Nat->Nat->List Nat->List Nat
 | 0,_,acc=>acc
 | f+1,n,acc=>bif yI n 10 then (48+n)::acc else nP f (n/10) ((48+n%10)::acc)
def aB(n:Nat):List Nat:=nP (n+1) n []
def aZ:Int->List Nat
 | .ofNat n=>aB n
 | .negSucc n=>45::aB (n+1)
def Cr:Int->Bool
 | .ofNat n=>yI n 9223372036854775808
 | .negSucc n=>yI n 9223372036854775808
def Ka:List AV->Option AV
 | [.int .i64 n]=>bif Cr n then Ft (.str (aZ n)) else Fu
 | _=>Fu
def BL:List AV->Option AV
 | [.int .u64 (.ofNat n),.int .i64 10]=>bif yI n 18446744073709551616 then Ft (.str (aB n)) else Fu
 | _=>Fu
def cE:List Nat->Nat->Option Nat
 | [],a=>Ft a
 | b::r,a=>bif yA 48 b&&yA b 57 then cE r (10*a+(b-48)) else Fu
def Kb:List AV->Option AV
 | [.str s]=>
  bif yI 0 s.length&&yA s.length 18 then
   match cE s 0 with | some n=>Ft (.ax [.int .i64 n,.undef]) | none=>Fu
  else Fu
 | _=>Fu
def oW:List AV->Option AV
 | [.int .u64 (.ofNat x),.int .u64 (.ofNat y),.int .u64 (.ofNat c)]=>
  bif yA c 1&&(yI x 18446744073709551616&&yI y 18446744073709551616) then Ft (.ax [.int .u64 ((x+y+c)%18446744073709551616:Nat),.int .u64 ((x+y+c)/18446744073709551616:Nat)]) else Fu
 | _=>Fu
def B8:List AV->Option AV
 | [.int .u64 (.ofNat x),.int .u64 (.ofNat y),.int .u64 (.ofNat c)]=>
  bif yA c 1&&(yI x 18446744073709551616&&yI y 18446744073709551616) then Ft (.ax [.int .u64 ((x+18446744073709551616*2-y-c)%18446744073709551616:Nat),.int .u64 (bif yA (y+c) x then 0 else 1)]) else Fu
 | _=>Fu
def zA:List AV->Option AV
 | [.int .u64 (.ofNat x),.int .u64 (.ofNat y)]=>bif yI x 18446744073709551616&&yI y 18446744073709551616 then Ft (.ax [.int .u64 (x*y/18446744073709551616:Nat),.int .u64 (x*y%18446744073709551616:Nat)]) else Fu
 | _=>Fu
def eJ:Nat->Nat->Nat
 | 0,_=>0
 | f+1,n=>bif ym n 0 then 0 else 1+eJ f (n/2)
def Jq:List AV->Option AV
 | [.int .u64 (.ofNat x)]=>bif yI x 18446744073709551616 then Ft (.int .i64 (eJ 64 x)) else Fu
 | _=>Fu
def Gn:List AV->Option AV
 | [.int .u64 (.ofNat x)]=>bif yI x 18446744073709551616 then Ft (.int .i64 (64-eJ 64 x:Nat)) else Fu
 | _=>Fu
def Sp:List AV->Option AV
 | [.ao .f64 b]=>Ft (.int .u64 b)
 | _=>Fu
def Q2:List AV->Option AV
 | [.int .u64 (.ofNat n)]=>Ft (.ao .f64 n)
 | _=>Fu
section
open Go
section
variable {a:AV}{args:Array yg}{aq:List AV}{s:List Nat}{w:yi}
section
variable {O:bl}{n:Nat}
def IN{w':yi}(h:RowKit.Below w.heap.size w w'):Calm w w':=⟨h.os,h.tape,h.output,h.size,h.block⟩
def ala(k:Nat):Calm w (w.drewN k):=⟨rfl,rfl,rfl,yu _,fun _ _=>rfl⟩
def alb(h:Cn O w){a:Addr}{v:yg}(hc:O.w0.cell? a=Ft v):w.cell? a=Ft v:=by
 have hb:a.block<O.w0.heap.size:=by
  unfold World.cell? at hc
  cases hq:O.w0.heap[a.block]? with
  | none=>simp[hq] at hc
  | some o=>exact (xt.1 hq).1
 unfold World.cell? at hc ⊢;rw[h.1 _ hb];exact hc
def oR{r:AV}(hr:∀S w' lo u,ae O.ab eR S w' r u->pn O.ab S w' lo r u)(fA:∀args w,(callFunc (O.ab n) args).run O.P w=.ok (.enter (O.ab n) args) w)(h:∀w S args,Cn O w->az O.ab eR S w aq args.toList->wE O.P (O.ab n) args w fun e w'=>∃u,e=.returned u/\Calm w w'/\∀S,ae O.ab eR S w' r u):dZ O n aq r:=by
 intro w S args hg hS dJ _;refine .inl ⟨fA args w,Go.callsIn_wide.2 ((h w S args hg dJ).mono ?_)⟩;rintro e w' ⟨u,rfl,hc,hu⟩;exact⟨u,S,rfl,hc,fun _ h=>h,fun _ h=>.inl h,fun b hb=>yE (hS b hb) hc.size,hr S w' _ u (hu S)⟩
def MZ{r:AV}(hr:∀S w' lo u,ae O.ab eR S w' r u->pn O.ab S w' lo r u)(h:∀w S args,az O.ab eR S w aq args.toList->∃u,(callFunc (O.ab n) args).run O.P w=.ok (.value u) w/\∀S,ae O.ab eR S w r u):dZ O n aq r:=by
 intro w S args _ hS dJ _;have⟨u,h1,h2⟩:=h w S args dJ;exact .inr ⟨u,w,h1,u,S,rfl,Calm.refl,fun _ h=>h,fun _ h=>.inl h,hS,hr S w _ u (h2 S)⟩
def Jf:∀S w' lo u,ae O.ab eR S w' (.str s) u->pn O.ab S w' lo (.str s) u:=fun S w' lo u h=>⟨[],rfl,h,rfl⟩
def S6{k:IntKind}{z:Int}:∀S w' lo u,ae O.ab eR S w' (.int k z) u->pn O.ab S w' lo (.int k z) u:=fun S w' lo u h=>⟨[],rfl,h,rfl⟩
def ao2{k:FloatKind}{z:Nat}:∀S w' lo u,ae O.ab eR S w' (.ao k z) u->pn O.ab S w' lo (.ao k z) u:=fun S w' lo u h=>⟨[],rfl,h,rfl⟩
def aak{b:Bool}:∀S w' lo u,ae O.ab eR S w' (.bool b) u->pn O.ab S w' lo (.bool b) u:=fun S w' lo u h=>⟨[],rfl,h,rfl⟩
def YJ{S:Nat->Prop}{w':yi}{lo:Nat}:∀{vs:List AV} {us:List yg},(∀v,v∈vs->(∀ex sz k cs,v≠.cF ex sz k cs)/\aW v=ydh)->az O.ab eR S w' vs us->lQ O.ab S w' lo vs us []
 | [],us,_,h=>by simp only[az] at h;exact⟨h,rfl⟩
 | v::vs,us,hv,h=>by
  simp only[az] at h;obtain⟨u,t,rfl,h1,h2⟩:=h;have h3:=hv v (by simp);refine⟨u,t,[],[],rfl,rfl,?_,YJ (fun v hm=>hv v (by simp[hm])) h2⟩;cases v<;>first | exact⟨rfl,h1,h3.2⟩ | exact absurd rfl (h3.1 _ _ _ _)
def FN{vs:List AV}(hv:∀v,v∈vs->(∀ex sz k cs,v≠.cF ex sz k cs)/\aW v=ydh):∀S w' lo u,ae O.ab eR S w' (.ax vs) u->pn O.ab S w' lo (.ax vs) u:=by
 intro S w' lo u h;obtain⟨xs,rfl,h⟩:=h;exact⟨xs,[],rfl,YJ hv h,by simp⟩
def En{S:Nat->Prop}(h:az O.ab eR S w [a] args.toList):∃u,args=#[u]/\ae O.ab eR S w a u:=by
 simp only[az] at h
 grind
def Cs{S:Nat->Prop}{b:AV}(h:az O.ab eR S w [a,b] args.toList):∃u v,args=#[u,v]/\ae O.ab eR S w a u/\ae O.ab eR S w b v:=by
 simp only[az] at h
 grind
def adh{S:Nat->Prop}{b c:AV}(h:az O.ab eR S w [a,b,c] args.toList):∃u v x,args=#[u,v,x]/\ae O.ab eR S w a u/\ae O.ab eR S w b v/\ae O.ab eR S w c x:=by
 simp only[az] at h
 grind
def IP{S:Nat->Prop}{l:List UInt8}(h:l.map xg=s):ae O.ab eR S w (.str s) (.string ⟨l.toArray⟩):=by
 simp only[ae];exact⟨_,rfl,h⟩
def toNat_inj{a b:UInt8}:ym a.toNat b.toNat=(a==b):=by
 by_cases h:a=b
 .simp_all
 .have h':a.toNat≠b.toNat:=fun e=>h (UInt8.toNat_inj.1 e)
  have e:(a==b)=ydi:=by simp_all
  rw[e]
  cases hq:ym a.toNat b.toNat with
  | false=>rfl
  | true=>exact absurd (yf hq) h'
def IV:∀(p s:List UInt8),jI (p.map xg) (s.map xg)=p.isPrefixOf s
 | [],s=>by cases s<;>rfl
 | a::p,[]=>rfl
 | a::p,b::s=>by
  simp only[yZ,jI,List.isPrefixOf,IV p s,toNat_inj]
def YK:∀(s sep:List UInt8) (k:Nat),rY (sep.map xg) (s.map xg) k=if 0<=Lib.index s sep then Ft (k+(Lib.index s sep).toNat) else Fu
 | [],sep,k=>by
  simp only[List.map_nil,rY,Lib.index]
  cases sep with
  | nil=>simp[jI]
  | cons a r=>simp[jI]
 | b::s,sep,k=>by
  have ih:=YK s sep (k+1);have hp:=IV sep (b::s);simp only[yZ,rY,hp,Lib.index]
  grind
def aal(b:UInt8):∀cs:List UInt8,OQ b.toNat (cs.map xg)=cs.contains b
 | []=>rfl
 | c::cs=>by
  simp only[yZ,OQ,aal b cs,List.contains_cons,toNat_inj]
  grind
def RR(cs:List UInt8):∀l:List UInt8,J9 (cs.map xg) (l.map xg)=(l.dropWhile (cs.contains ·)).map xg
 | []=>rfl
 | b::l=>by
  simp only[yZ,J9,aal,List.dropWhile_cons,RR cs l]
  grind
def aam(l:List UInt8):∀n,iE (l.map xg) n=(Lib.repeatL l n).map xg
 | 0=>rfl
 | n+1=>by simp only[iE,Lib.repeatL,xA,aam l n]
def Yh:∀(f n:Nat) (acc:List Nat),n<f->nP f n acc=(Lib.decDigits n).map xg++acc
 | 0,n,acc,h=>by lia
 | f+1,n,acc,h=>by
  rw[nP,Lib.decDigits];by_cases hn:n<10
  .rw [show yI n 10=ydh from yt hn,yq,dif_pos hn]
   have:(ych (48+n)).toNat=48+n:=by
    rw[ybd];lia
   grind
  .have hb:yI n 10=ydi:=by
    cases hq:yI n 10 with
    | false=>rfl
    | true=>exact absurd (yr hq) (by lia)
   rw[hb,yO,dif_neg hn,Yh f (n/10) _ (by lia),xA,List.append_assoc]
   have:(ych (48+n%10)).toNat=48+n%10:=by
    rw[ybd];lia
   grind
def Sq(n:Nat):aB n=(Lib.decDigits n).map xg:=by
 rw[aB,Yh (n+1) n [] (by lia),List.append_nil]
def am6(n:Int):aZ n=(Lib.itoa n).map xg:=by
 cases n with
 | ofNat k=>
  have:¬ybI k<0:=by simp
  simp only[aZ,Lib.itoa,this,xy,Sq];rfl
 | negSucc k=>
  have:Int.negSucc k<0:=Int.negSucc_lt_zero k
  simp only[aZ,Lib.itoa,this,xQ,Sq,yZ];rfl
def Sr:∀f x:Nat,eJ f x=Lib.bitLenAux f x
 | 0,_=>rfl
 | f+1,x=>by
  rw[eJ,Lib.bitLenAux];by_cases h:x=0
  .simp_all
  .have hb:ym x 0=ydi:=by
    cases hq:ym x 0 with
    | false=>rfl
    | true=>exact absurd (yf hq) h
   rw[hb,yO,yz h,Sr f]
def YL:∀{cs:List UInt8},Jp (cs.map xg)=ydh->∀(j:Nat) b,cs[j]? =Ft b->b.toNat<128
 | [],_,j,b,h=>by simp at h
 | c::cs,h,j,b,hb=>by
  simp only[yZ,Jp,ye] at h
  cases j with
  | zero=>
   simp_all
  | succ j=>exact YL h.2 j b (by simpa using hb)
def aan:∀{l:List UInt8} {a z:Nat},cE (l.map xg) a=Ft z->Lib.decFrom a l=Ft z
 | [],a,z,h=>h
 | b::l,a,z,h=>by
  simp only[yZ,cE] at h
  cases hb:(yA 48 b.toNat&&yA b.toNat 57) with
  | false=>rw[hb] at h;cases h
  | true=>
   rw[hb] at h;simp only[ye] at hb;have h1:=yr hb.1;have h2:=yr hb.2
   have:=aan h
   rw[Lib.decFrom,Lib.digitVal,yP ⟨h1,h2⟩]
   grind
def am7{l:List UInt8}{z:Nat}(h:cE (l.map xg) 0=Ft z)(h0:0<l.length):Lib.atoi l=Ft (z:Int):=by
 cases l with
 | nil=>simp at h0
 | cons b r=>
  have hd:=aan h;have hb:48<=b.toNat:=by
   simp only[yZ,cE] at h
   cases hb:(yA 48 b.toNat&&yA b.toNat 57) with
   | false=>rw[hb] at h;cases h
   | true=>
    simp_all
  have h1:(b==45)=ydi:=by
   have:b≠45:=fun e=>by subst e;exact absurd hb (by decide)
   grind
  have h2:(b==43)=ydi:=by
   have:b≠43:=fun e=>by subst e;exact absurd hb (by decide)
   grind
  simp only[Lib.atoi,h1,h2,yC,xy,Lib.decNat,List.isEmpty_cons,hd,wU]
section
variable {f:tW}
def ai4(hf:O.ab n=f)(fA:∀args w,(callFunc f args).run O.P w=.ok (.enter f args) w)(hc:∀(s p:ByteArray) (w:yi),wE O.P f #[.string s,.string p] w fun e w'=>e=.returned (.tuple #[.string ⟨(Lib.trimPrefix s.data.toList p.data.toList).toArray⟩,.bool (Lib.hasPrefix s.data.toList p.data.toList)])/\w'=w):
  ∀aq r,MG aq=Ft r->dZ O n aq r:=by
 intro aq r h;unfold MG at h
 split at h
 .rename_i s p;simp only[yb] at h;subst h;refine oR ?_ (by rw[hf];exact fA) ?_
  .cases jI p s<;>exact FN (by simp[aW])
  .intro w S args hg dJ;obtain⟨u,v,rfl,h1,h2⟩:=Cs dJ;obtain⟨t1,rfl,rfl⟩:=h1;obtain⟨t2,rfl,rfl⟩:=h2;rw[hf];refine (hc t1 t2 w).mono ?_;rintro e w' ⟨rfl,rfl⟩;refine⟨_,rfl,Calm.refl,fun S=>?_⟩;rw[IV,yL];unfold Lib.trimPrefix Lib.hasPrefix
   cases hp:t2.data.toList.isPrefixOf t1.data.toList with
   | true=>
    simp only[yq,xQ,ae,az]
    simp_all
   | false=>
    simp only[yO,yC,xy,ae,az]
    grind
 .cases h
def ai5(hf:O.ab n=f)(fA:∀args w,(callFunc f args).run O.P w=.ok (.enter f args) w)(hc:∀(s p:ByteArray) (w:yi),wE O.P f #[.string s,.string p] w fun e w'=>e=.returned (.bool (Lib.hasPrefix s.data.toList p.data.toList))/\w'=w):
  ∀aq r,MH aq=Ft r->dZ O n aq r:=by
 intro aq r h;unfold MH at h
 split at h
 .rename_i s p;simp only[yb] at h;subst h;refine oR aak (by rw[hf];exact fA) ?_
  intro w S args hg dJ;obtain⟨u,v,rfl,h1,h2⟩:=Cs dJ;obtain⟨t1,rfl,rfl⟩:=h1;obtain⟨t2,rfl,rfl⟩:=h2;rw[hf];refine (hc t1 t2 w).mono ?_;rintro e w' ⟨rfl,rfl⟩;refine⟨_,rfl,Calm.refl,fun S=>?_⟩;rw[IV];simp only[ae,Lib.hasPrefix]
 .cases h
def ai1(hf:O.ab n=f)(fA:∀args w,(callFunc f args).run O.P w=.ok (.enter f args) w)(hc:∀(s p:ByteArray) (w:yi),wE O.P f #[.string s,.string p] w fun e w'=>e=.returned (.string ⟨(Lib.trimPrefix s.data.toList p.data.toList).toArray⟩)/\w'=w):
  ∀aq r,Mr aq=Ft r->dZ O n aq r:=by
 intro aq r h;unfold Mr at h
 split at h
 .rename_i s p;simp only[yb] at h;subst h;refine oR Jf (by rw[hf];exact fA) ?_
  intro w S args hg dJ;obtain⟨u,v,rfl,h1,h2⟩:=Cs dJ;obtain⟨t1,rfl,rfl⟩:=h1;obtain⟨t2,rfl,rfl⟩:=h2;rw[hf];refine (hc t1 t2 w).mono ?_;rintro e w' ⟨rfl,rfl⟩;refine⟨_,rfl,Calm.refl,fun S=>?_⟩;rw[IV,yL];refine IP ?_;unfold Lib.trimPrefix Lib.hasPrefix
  cases hp:t2.data.toList.isPrefixOf t1.data.toList with
  | true=>simp[List.map_drop]
  | false=>simp
 .cases h
def ao3(hf:O.ab n=f)(fA:∀args w,(callFunc f args).run O.P w=.ok (.enter f args) w){a:Addr}{m:Int}(hm:O.w0.cell? a=Ft (.int .i64 m))(hc:∀(s sep:ByteArray) (w:yi),s.size<4294967281->w.cell? a=Ft (.int .i64 m)->wE O.P f #[.string s,.string sep] w fun e w'=>e=.returned (.tuple #[.string ⟨(Lib.cut s.data.toList sep.data.toList).1.toArray⟩,.string ⟨(Lib.cut s.data.toList sep.data.toList).2.1.toArray⟩,.bool (Lib.cut s.data.toList sep.data.toList).2.2])/\∃n,w'=w.drewN n):
  ∀aq r,OP aq=Ft r->dZ O n aq r:=by
 intro aq r h;unfold OP at h
 split at h
 .rename_i s sep
  cases hb:yI s.length 4294967281 with
  | false=>rw[hb] at h;cases h
  | true=>
   rw[hb] at h;have key:∀(q:List UInt8×List UInt8×Bool),(∀t1 t2:ByteArray,t1.data.toList.map xg=s->t2.data.toList.map xg=sep->r=.ax [.str ((Lib.cut t1.data.toList t2.data.toList).1.map xg),.str ((Lib.cut t1.data.toList t2.data.toList).2.1.map xg),.bool (Lib.cut t1.data.toList t2.data.toList).2.2])->
     (∃a b c,r=.ax [.str a,.str b,.bool c])->dZ O n [.str s,.str sep] r:=by
    intro q hq arV;obtain⟨a',b',c',rfl⟩:=arV;refine oR (FN (by simp[aW])) (by rw[hf];exact fA) ?_
    intro w S args hg dJ;obtain⟨u,v,rfl,h1,h2⟩:=Cs dJ;obtain⟨t1,rfl,e1⟩:=h1;obtain⟨t2,rfl,e2⟩:=h2;rw[hf];have hl:t1.size<4294967281:=by
     have:=nT hb
     rw[<-e1,yL] at this
     simp_all
    refine (hc t1 t2 w hl (alb hg hm)).mono ?_;rintro e w' ⟨rfl,k,rfl⟩;refine⟨_,rfl,ala k,fun S=>?_⟩;simp only[ae,az]
    grind
   refine key ([],[],ydi) ?_ ?_
   .intro t1 t2 e1 e2;subst e1;subst e2;rw[YK] at h;unfold Lib.cut;by_cases h0:0<=Lib.index t1.data.toList t2.data.toList
    .simp_all
    .grind
   .grind
 .cases h
def am8(hf:O.ab n=f)(fA:∀args w,(callFunc f args).run O.P w=.ok (.enter f args) w)(hc:∀(s cs:ByteArray) (w:yi),s.size<=9223372036854775807->cs.size<4294967281->(∀(j:Nat) b,cs.data.toList[j]? =Ft b->b.toNat<128)->wE O.P f #[.string s,.string cs] w fun e w'=>e=.returned (.string ⟨(Lib.trimS s.data.toList cs.data.toList).toArray⟩)/\RowKit.Below w.heap.size w w'):
  ∀aq r,trimS aq=Ft r->dZ O n aq r:=by
 intro aq r h;unfold trimS at h
 split at h
 .rename_i s cs
  cases hb:(Jp cs&&(yI s.length 4294967281&&yI cs.length 4294967281)) with
  | false=>rw[hb] at h;cases h
  | true=>
   rw[hb] at h;simp only[yq,yb] at h;subst h;simp only[ye] at hb;refine oR Jf (by rw[hf];exact fA) ?_
   intro w S args hg dJ;obtain⟨u,v,rfl,h1,h2⟩:=Cs dJ;obtain⟨t1,rfl,rfl⟩:=h1;obtain⟨t2,rfl,rfl⟩:=h2;have pO:=nT hb.2.1;have Br:=nT hb.2.2;rw[yL] at pO Br;rw[hf];refine (hc t1 t2 w (by rw[Lib.size_eq];lia) (by rw[Lib.size_eq];lia) (YL hb.1)).mono ?_
   rintro e w' ⟨rfl,hw⟩;refine⟨_,rfl,IN hw,fun S=>IP ?_⟩;simp only[Lib.trimS,Lib.trimLeftS,Lib.trimRightS];rw[<-yaF,RR,<-yaF,RR]
 .cases h
def aj9(hf:O.ab n=f)(fA:∀args w,(callFunc f args).run O.P w=.ok (.enter f args) w)(hc:∀(s:ByteArray) (c:Nat) (w:yi),c<=9223372036854775807->s.size*c<=140737488355328->wE O.P f #[.string s,.int .i64 c] w fun e w'=>e=.returned (.string ⟨(Lib.repeatL s.data.toList c).toArray⟩)/\RowKit.Below w.heap.size w w'):
  ∀aq r,B1 aq=Ft r->dZ O n aq r:=by
 intro aq r h;unfold B1 at h
 split at h
 .rename_i s c
  cases hb:(yA c 1099511627776&&yA (s.length*c) 1099511627776) with
  | false=>rw[hb] at h;cases h
  | true=>
   rw[hb] at h;simp only[yq,yb] at h;subst h;simp only[ye] at hb;have l1:=yr hb.1;have l2:=yr hb.2;refine oR Jf (by rw[hf];exact fA) ?_
   intro w S args hg dJ;obtain⟨u,v,rfl,h1,h2⟩:=Cs dJ;obtain⟨t1,rfl,rfl⟩:=h1;subst h2;rw[hf];rw[yL] at l2;refine (hc t1 c w (by lia) (by rw[Lib.size_eq];lia)).mono ?_
   rintro e w' ⟨rfl,hw⟩;exact⟨_,rfl,IN hw,fun S=>IP (aam _ _).symm⟩
 .cases h
def am9(hf:O.ab n=f)(fA:∀args w,(callFunc f args).run O.P w=.ok (.enter f args) w)(hc:∀(z:Int) (w:yi),-9223372036854775808<=z->z<=9223372036854775807->Cn O w->wE O.P f #[.int .i64 z] w fun e w'=>e=.returned (.string ⟨(Lib.itoa z).toArray⟩)/\Calm w w'):
  ∀aq r,Ka aq=Ft r->dZ O n aq r:=by
 intro aq r h;unfold Ka at h
 split at h
 .rename_i z
  cases hb:Cr z with
  | false=>rw[hb] at h;cases h
  | true=>
   rw[hb] at h;simp only[yq,yb] at h;subst h;have hz: -9223372036854775808<=z/\z<=9223372036854775807:=by
    cases z with
    | ofNat k=>have:=nT hb;show -9223372036854775808<=(k:Int)/\(k:Int)<=9223372036854775807;lia
    | negSucc k=>have:=nT hb;lia
   refine oR Jf (by rw[hf];exact fA) ?_
   intro w S args hg dJ;obtain⟨u,rfl,h1⟩:=En dJ;subst h1;rw[hf];refine (hc z w hz.1 hz.2 hg).mono ?_;rintro e w' ⟨rfl,hw⟩;exact⟨_,rfl,hw,fun S=>IP (am6 z).symm⟩
 .cases h
def ai2(hf:O.ab n=f)(fA:∀args w,(callFunc f args).run O.P w=.ok (.enter f args) w)(hc:∀(z:Nat) (w:yi),z<18446744073709551616->Cn O w->wE O.P f #[.int .u64 z,.int .i64 10] w fun e w'=>e=.returned (.string ⟨(Lib.decDigits z).toArray⟩)/\Calm w w'):
  ∀aq r,BL aq=Ft r->dZ O n aq r:=by
 intro aq r h;unfold BL at h
 split at h
 .rename_i z
  cases hb:yI z 18446744073709551616 with
  | false=>rw[hb] at h;cases h
  | true=>
   rw[hb] at h;simp only[yq,yb] at h;subst h;refine oR Jf (by rw[hf];exact fA) ?_
   intro w S args hg dJ;obtain⟨u,v,rfl,h1,h2⟩:=Cs dJ;subst h1;subst h2;rw[hf];refine (hc z w (nT hb) hg).mono ?_;rintro e w' ⟨rfl,hw⟩;exact⟨_,rfl,hw,fun S=>IP (Sq z).symm⟩
 .cases h
def ana(hf:O.ab n=f)(fA:∀args w,(callFunc f args).run O.P w=.ok (.enter f args) w)(hc:∀(s:ByteArray) (z:Int) (w:yi),s.size<=18->Lib.atoi s.data.toList=Ft z->wE O.P f #[.string s] w fun e w'=>e=.returned (.tuple #[.int .i64 z,.nilIface])/\Calm w w'):
  ∀aq r,Kb aq=Ft r->dZ O n aq r:=by
 intro aq r h;unfold Kb at h
 split at h
 .rename_i s
  cases hb:(yI 0 s.length&&yA s.length 18) with
  | false=>rw[hb] at h;cases h
  | true=>
   rw[hb] at h;simp only[yq] at h;simp only[ye] at hb;have l1:=nT hb.1;have l2:=yr hb.2
   split at h
   .rename_i z hz;simp only[yb] at h;subst h;refine oR (FN (by simp[aW])) (by rw[hf];exact fA) ?_
    intro w S args hg dJ;obtain⟨u,rfl,h1⟩:=En dJ;obtain⟨t1,rfl,rfl⟩:=h1;rw[yL] at l1 l2;have ha:Lib.atoi t1.data.toList=Ft (z:Int):=am7 hz l1;rw[hf];refine (hc t1 z w (by rw[Lib.size_eq];exact l2) ha).mono ?_
    simp only[ae,az]
    grind
   .cases h
 .cases h
def alc(hf:O.ab n=f)(fA:∀args w,(callFunc f args).run O.P w=.ok (.enter f args) w)(hc:∀(x y:Nat) (w:yi),x<18446744073709551616->y<18446744073709551616->wE O.P f #[.int .u64 x,.int .u64 y] w fun e w'=>e=.returned (.tuple #[.int .u64 ((x*y/18446744073709551616:Nat):Int),.int .u64 ((x*y%18446744073709551616:Nat):Int)])/\w'=w):
  ∀aq r,zA aq=Ft r->dZ O n aq r:=by
 intro aq r h;unfold zA at h
 split at h
 .rename_i x y
  cases hb:(yI x 18446744073709551616&&yI y 18446744073709551616) with
  | false=>rw[hb] at h;cases h
  | true=>
   rw[hb] at h;simp only[yq,yb] at h;subst h;simp only[ye] at hb;refine oR (FN (by simp[aW])) (by rw[hf];exact fA) ?_
   intro w S args hg dJ;obtain⟨u,v,rfl,h1,h2⟩:=Cs dJ;subst h1;subst h2;rw[hf];refine (hc x y w (nT hb.1) (nT hb.2)).mono ?_;rintro e w' ⟨rfl,rfl⟩;refine⟨_,rfl,Calm.refl,fun S=>?_⟩;simp only[ae,az]
   grind
 .cases h
def ald(hf:O.ab n=f)(fA:∀args w,(callFunc f args).run O.P w=.ok (.enter f args) w)(hc:∀(x:Int) (w:yi),0<=x->x<=18446744073709551615->wE O.P f #[.int .u64 x] w fun e w'=>e=.returned (.int .i64 (Lib.bitLen x.toNat:Nat))/\w'=w):
  ∀aq r,Jq aq=Ft r->dZ O n aq r:=by
 intro aq r h;unfold Jq at h
 split at h
 .rename_i x
  cases hb:yI x 18446744073709551616 with
  | false=>rw[hb] at h;cases h
  | true=>
   rw[hb] at h;simp only[yq,yb] at h;subst h
   have:=nT hb
   refine oR S6 (by rw[hf];exact fA) ?_
   intro w S args hg dJ;obtain⟨u,rfl,h1⟩:=En dJ;subst h1;rw[hf];refine (hc (ybI x) w (yaA x) (by show (x:Int)<=_;lia)).mono ?_
   rintro e w' ⟨rfl,rfl⟩;refine⟨_,rfl,Calm.refl,fun S=>?_⟩;rw[Sr];rfl
 .cases h
def anb(hf:O.ab n=f)(fA:∀args w,(callFunc f args).run O.P w=.ok (.enter f args) w)(hc:∀(x:Int) (w:yi),0<=x->x<=18446744073709551615->wE O.P f #[.int .u64 x] w fun e w'=>e=.returned (.int .i64 (64-(Lib.bitLen x.toNat:Nat)))/\w'=w):
  ∀aq r,Gn aq=Ft r->dZ O n aq r:=by
 intro aq r h;unfold Gn at h
 split at h
 .rename_i x
  cases hb:yI x 18446744073709551616 with
  | false=>rw[hb] at h;cases h
  | true=>
   rw[hb] at h;simp only[yq,yb] at h;subst h
   have:=nT hb
   have hle:∀f x,Lib.bitLenAux f x<=f:=by
    intro f
    induction f with
    | zero=>intro x;exact yu _
    | succ f ih=>
     intro x;rw[Lib.bitLenAux]
     grind
   refine oR S6 (by rw[hf];exact fA) ?_
   intro w S args hg dJ;obtain⟨u,rfl,h1⟩:=En dJ;subst h1;rw[hf];refine (hc (ybI x) w (yaA x) (by show (x:Int)<=_;lia)).mono ?_
   rintro e w' ⟨rfl,rfl⟩;refine⟨_,rfl,Calm.refl,fun S=>?_⟩;simp only[ae,Sr];show Value.int .i64 (64-(Lib.bitLenAux 64 x:Int))=Value.int .i64 ((64-Lib.bitLenAux 64 x:Nat):Int)
   grind
 .cases h
def ajv(hf:O.ab n=f)(hc:∀(b:Nat) (w:yi),(callFunc f #[.float .f64 b]).run O.P w=.ok (.value (.int .u64 b)) w):
  ∀aq r,Sp aq=Ft r->dZ O n aq r:=by
 intro aq r h;unfold Sp at h
 split at h
 .rename_i b;simp only[yb] at h;subst h;refine MZ S6 ?_;intro w S args dJ;obtain⟨u,rfl,h1⟩:=En dJ;simp only[ae] at h1;subst h1;rw[hf];exact⟨_,hc b w,fun S=>rfl⟩
 .cases h
def aiY(hf:O.ab n=f)(hc:∀(b:Nat) (w:yi),(callFunc f #[.int .u64 b]).run O.P w=.ok (.value (.float .f64 b)) w):
  ∀aq r,Q2 aq=Ft r->dZ O n aq r:=by
 intro aq r h;unfold Q2 at h
 split at h
 .rename_i b;simp only[yb] at h;subst h;refine MZ ao2 ?_;intro w S args dJ;obtain⟨u,rfl,h1⟩:=En dJ;simp only[ae] at h1;subst h1;rw[hf];exact⟨_,hc b w,fun S=>rfl⟩
 .cases h
def ale(hf:O.ab n=f)(hc:∀(x y c:Nat) (w:yi),c<=1->(callFunc f #[.int .u64 x,.int .u64 y,.int .u64 c]).run O.P w=.ok (.value (.tuple #[.int .u64 (((x+y+c)%18446744073709551616:Nat):Int),.int .u64 (((x+y+c)/18446744073709551616:Nat):Int)])) w):
  ∀aq r,oW aq=Ft r->dZ O n aq r:=by
 intro aq r h;unfold oW at h
 split at h
 .rename_i x y c
  cases hb:(yA c 1&&(yI x 18446744073709551616&&yI y 18446744073709551616)) with
  | false=>rw[hb] at h;cases h
  | true=>
   rw[hb] at h;simp only[yq,yb] at h;subst h;simp only[ye] at hb;refine MZ (FN (by simp[aW])) ?_;intro w S args dJ;obtain⟨u,v,z,rfl,h1,h2,h3⟩:=adh dJ;subst h1;subst h2;subst h3;rw[hf];refine⟨_,hc x y c w (yr hb.1),fun S=>?_⟩;simp only[ae,az]
   grind
 .cases h
def alf(hf:O.ab n=f)(hc:∀(x y b:Nat) (w:yi),b<=1->(callFunc f #[.int .u64 x,.int .u64 y,.int .u64 b]).run O.P w=.ok (.value (.tuple #[.int .u64 (((x+18446744073709551616-y-b)%18446744073709551616:Nat):Int),.int .u64 ((if x<y+b then 1 else 0:Nat):Int)])) w):
  ∀aq r,B8 aq=Ft r->dZ O n aq r:=by
 intro aq r h;unfold B8 at h
 split at h
 .rename_i x y c
  cases hb:(yA c 1&&(yI x 18446744073709551616&&yI y 18446744073709551616)) with
  | false=>rw[hb] at h;cases h
  | true=>
   rw[hb] at h;simp only[yq,yb] at h;subst h;simp only[ye] at hb;have eL:=yr hb.1;have hy:=nT hb.2.2;refine MZ (FN (by simp[aW])) ?_;intro w S args dJ;obtain⟨u,v,z,rfl,h1,h2,h3⟩:=adh dJ;subst h1;subst h2;subst h3;rw[hf];refine⟨_,hc x y c w eL,fun S=>?_⟩;simp only[ae,az];refine⟨_,rfl,_,_,rfl,?_,_,_,rfl,?_,rfl⟩
   .grind
   .congr 1
    by_cases h:x<y+c
    .have:yA (y+c) x=ydi:=by
      cases hq:yA (y+c) x with
      | false=>rfl
      | true=>have:=yr hq;lia
     grind
    .rw [yt (by lia),yz h];rfl
 .cases h
end
end
end
end
end VE
