import Ieee.Arith
import Derived.Test.YtcifahflapielaaGreatDoorWaq
set_option linter.all false
set_option maxRecDepth 100000
open Bool renaming and_eq_true->ye,and_self->wj,and_true->ud,false_and->xY,false_eq_true->yL,false_or->uJ,not_false->xb,not_true->y9,toNat_false->yby,true_and->wv,true_eq_false->ybg,true_or->th,xor_false->ybH
open Go renaming DataW->xU,Field->ub,FloatKind->wD,IntKind->xj,MemPlace->wM,Program->xy,TypeId->yE,Value->yj,World->ym
open Int renaming add_zero->yaz,gcd->vh,le_of_lt->tu,lt_trichotomy->yaa,mul_add->yaY,mul_le_mul->ybR,mul_le_mul_of_nonneg_left->wY,mul_nonneg->tK,natAbs_ediv_of_dvd->uW,natAbs_natCast->wJ,natCast_add->uZ,natCast_mul->xk,natCast_nonneg->yat,neg_neg->yao,ofNat_eq_natCast->yaZ,ofNat_lt->tr,pow_pos->ycB,pow_succ->yab,tdiv_eq_ediv_of_nonneg->xR,tmod_eq_emod_of_nonneg->xH,toNat_natCast->wa,toNat_of_nonneg->ybf
open Int.ofNat renaming inj->yai
open List renaming append_assoc->xJ,append_nil->wz,cons_append->xh,drop->vW,drop_drop->vd,drop_eq_getElem_cons->yT,drop_eq_nil_of_le->yZ,drop_left->ue,drop_zero->yg,eq_nil_of_length_eq_zero->yt,flatMap_def->ybw,flatten_cons->vS,getD_eq_getElem?_getD->yU,getElem?_eq_getElem->xf,getElem_cons_zero->tj,getElem_mem->xq,length->tY,length_append->yM,length_cons->yx,length_drop->xX,length_map->yv,length_nil->yN,length_pos_iff->uX,length_take->yO,mapM_cons->uL,map_append->xu,map_cons->xi,map_nil->wW,map_set->yaH,mem_cons->xx,mem_cons_of_mem->wA,mem_cons_self->wS,mem_map->vI,nil_append->xG,replicate->yD,replicate_succ->wT,set_eq_of_length_le->yax,set_eq_take_append_cons_drop->vn,take_append_drop->wc,take_left->uM,take_length->xP,take_of_length_le->yq,take_set->yaA,take_succ_eq_append_getElem->yS
open List.cons renaming injEq->xQ
open Nat renaming add_assoc->tG,add_comm->ybE,add_mul->wg,add_zero->xd,beq->yp,ble->yJ,ble_eq_true_of_le->yB,blt->yP,div_add_mod->wm,div_eq_of_lt->xW,div_lt_iff_lt_mul->xM,eq_of_beq_eq_true->yh,eq_zero_or_pos->xv,gcd->wL,gcd_comm->tU,le_log2->ycC,le_mul_of_pos_left->tT,le_of_ble_eq_true->yu,le_of_lt_succ->vT,le_refl->yz,le_trans->xn,log2->ybS,log2_lt->yba,lt_log2_self->ybC,lt_of_le_of_lt->wB,lt_of_lt_of_le->yR,lt_trans->vO,min_eq_left->xA,mod_add_div->uk,mod_eq_of_lt->yY,mod_lt->xO,mul_add->xK,mul_add_div->tV,mul_add_mod->tW,mul_assoc->xm,mul_comm->xz,mul_div_cancel->uR,mul_le_mul->xF,mul_le_mul_left->xa,mul_le_mul_right->yQ,mul_lt_mul''->yah,mul_lt_mul_of_pos_right->xZ,mul_mod_left->tg,mul_one->yi,mul_pos->vM,mul_zero->xI,ne_of_gt->tv,not_lt_zero->uj,one_shiftLeft->ybx,pow_add->xL,pow_le_pow_left->uf,pow_le_pow_right->xe,pow_lt_pow_iff_right->ug,pow_lt_pow_right->vX,pow_mul->yan,pow_pos->ybG,pow_succ->xt,pow_zero->ux,reduceAdd->yb,reduceEqDiff->ya,reduceLT->yG,reduceLeDiff->yk,reduceMul->xg,shiftLeft_eq->tf,succ_mul->ycq,two_pow_pos->xr,zero_add->yf,zero_le->tk,zero_mul->ve
open Option renaming bind_eq_bind->vU,bind_some->wF,map_eq_some_iff->wP,pure_def->wX
open Option.some renaming injEq->yd
open Prod.mk renaming injEq->yo
open Rat renaming divInt->wK,intCast_neg->tX,lt_irrefl->ycm,mul_assoc->vG,mul_comm->ycr,mul_lt_mul_right->uB,mul_one->vN,natCast_mul->xV
open Option renaming some->GW
open Bool renaming true->ycN,false->ycO
namespace VE
open Go (IntKind)
variable {P:aG}{L:Lib}
def alY:∀(cs:List AV) (l:List Nat),Ap cs=GW l->cs=l.map uc/\lo 18446744073709551616 l:=by
 intro cs
 induction cs with
 | nil=>
  intro l h;simp only[Ap,yd] at h;subst h;exact⟨rfl,fun _ h=>by cases h⟩
 | cons c cs ih=>
  intro l h;unfold Ap at h
  split at h
  .grind
  .rename_i d r qJ;cases qJ
   cases hb:yP d 18446744073709551616 with
   | false=>rw[hb] at h;cases h
   | true=>
    rw[hb] at h
    cases hw:Ap cs with
    | none=>rw[hw] at h;cases h
    | some l'=>
     rw[hw] at h;cases h;have⟨k1,k2⟩:=ih l' hw;refine⟨by rw[k1];rfl,fun x hx=>?_⟩
     rcases xx.1 hx with rfl | hx
     .simp_all
     .exact k2 x hx
  .cases h
def ach:∀{l:List Nat},Dl l=ycN->iz l
 | [],h=>by cases h
 | [a],h=>by
  have h0:a≠0:=fun e=>by subst e;cases h
  exact G1 h0 []
 | a::b::r,h=>by
  have h1:eC (b::r)=b::r:=ach (l:=b::r) h;show eC (a::(b::r))=_
  simp only[eC] at h1 ⊢;rw[h1]
def arR(h:Has P L 99 Gt)(XN:L.pure 135=GW Mr){s:Int}(hs:Di s=ycN):bS P L (D P L) 99 [.agg [aa s,.ab]]=GW (.str (aV s)):=by
 have e1:bS P L (D P L) 135 [aa s]=GW (.str (aV s)):=by
  rw[j8 XN];show (bif Di s then GW (AV.str (aV s)) else none)=_
  rw[hs];rfl
 rw[aF h];simp only[go_sem,ya,yb,Gt,aR,bH,yf,du,iJ,eP,e1]
section
open Go
variable {O:bz}
def anx(hO:iH O)(hN:Nu O.prog O.aI)(XN:O.aI.pure 135=GW Mr)(F6:O.aI.pure 138=GW CB)(B1:O.aI.pure 139=GW CV)(Jo:Has O.prog O.aI 99 Gt){fn:Func}{c:Code}(mD:O.P.funcs[O.ah 99]? =GW fn)(jT:fn.body=GW c)(SG:fn.ntmps=69)(XK:Sj 5 c)(ht:Vs O.P c):∀aw r,P9 aw=GW r->eR O 99 aw r:=by
 intro aw r h;unfold P9 at h
 split at h
 .rename_i s
  cases hs:Di s with
  | false=>rw[hs] at h;cases h
  | true=>
   rw[hs] at h;cases h;have⟨k,hk⟩:=aev (arR (P:=O.prog) (L:=O.aI) Jo XN hs);exact sound hO hk
 .rename_i s e n cs
  cases hw:Ap cs with
  | none=>rw[hw] at h;cases h
  | some l=>
   rw[hw] at h;simp only at h
   cases hb:(yp l.length n&&(yJ n 4000000000&&(Dl l&&yJ 9223372036854775808 (AL l)))) with
   | false=>rw[hb] at h;cases h
   | true=>
    rw[hb] at h;simp only[ye] at hb;have⟨h1,h2,h3,h4⟩:=hb;obtain⟨rfl,bf⟩:=alY cs l hw;have h1:=yh h1;subst h1;have h2:=yu h2;have h4:=yu h4;have h3:=ach h3;rw[Vq] at h4 h;have aH:=nR bf;have key:=fun (s z:Int) (hz:z.natAbs=bv 18446744073709551616 l) (hs:s=if z<0 then -1 else 1)=>
     apI hO hN F6 B1 Jo.code mD jT SG XK ht (s:=s) (z:=z) (e:=e) (l:=l) (.inr ⟨e,l,rfl,bf,h3,hz.symm,hs,by lia⟩) (by lia) h2 (by lia)
    split at h
    .cases h
     have:=key 1 (bv 18446744073709551616 l:Nat) (by simp) (by rw[yI (by lia)])
     exact this
    .cases h
     have:=key (-1) (-(bv 18446744073709551616 l:Nat):Int) (by simp) (by rw[yK (by lia)])
     rw[oz (by lia)] at this
     grind
    .cases h
 .cases h
end
section
open Go
def VW(L:Lib)(n:Nat)(sp:List AV->Option AV):Lib:=⟨fun i=>bif yp i n then GW sp else L.pure i,L.heap⟩
def anz{O:bz}(hO:iH O){n:Nat}{sp:List AV->Option AV}(h:∀aw r,sp aw=GW r->eR O n aw r):iH (O.Bt (VW O.aI n sp)) where
 hint:=hO.hint
 mixed:=hO.mixed
 prog:=hO.prog
 aI i SP aw r hi hs:=by
  show eR O i aw r
  simp only[VW] at hi
  cases hb:yp i n with
  | true=>
   simp_all
  | false=>
   rw[hb] at hi;exact hO.aI i SP aw r hi hs
 Il i SP hp ct aw v au aX hi hs:=ab0 (hO.Il i SP hp ct aw v au aX hi hs)
end
section
open Go
section
variable {H:Type}{enc:yE×yj->H}{P:xy}{w:ym}{base:Nat}{sp:Nat->Bool}{held:Bool}
def mapM_mem{α β:Type}{f:α->Option β}:∀{l:List α} {r:List β},l.mapM f=GW r->∀y,y∈r->∃x,f x=GW y
 | [],r,h,y,hy=>by simp only[List.mapM_nil,wX,yd] at h;subst h;cases hy
 | x::l,r,h,y,hy=>by
  rw[uL] at h
  cases h1:f x with
  | none=>simp[h1] at h
  | some z=>
   cases h2:l.mapM f with
   | none=>simp[h1,h2] at h
   | some zs=>
    simp only[h1,h2,wF,vU,wX,yd] at h;subst h;rcases xx.1 hy with rfl | hy
    .grind
    .exact mapM_mem h2 y hy
def Rd(enc:yE×yj->H)(P:xy)(w:ym)(base:Nat)(sp:Nat->Bool)(held:Bool)(t:yE)(d:xU H):Prop:=∃bl cs ps,DataW.trod enc P w base sp held bl t cs=GW (d,ps)
def avh{t:yE}{k:xj}{d:xU H}{n:Nat}(ht:P.underlying t=GW (.int k))(h:Rd enc P w base sp held t d):∃z,cV P (n+1) t d=[.int k z]/\(Lit.int k z).wf=ycN:=by
 obtain⟨bl,cs,ps,h⟩:=h
 cases bl with
 | zero=>simp[DataW.trod] at h
 | succ bl=>
  unfold DataW.trod at h
  split at h
  all_goals first
   | (rename_i hu;rw[ht] at hu;cases hu;done)
   | skip
  .rename_i k1 k2 z hu;rw[ht] at hu;injection hu with hu
   injection hu with hu
   subst hu
   split at h
   .rename_i hk;obtain⟨rfl,rfl⟩:=h;exact⟨z,by simp only[cV,ht],hk.2⟩
   .cases h
  grind
def apM{t e:yE}{d:xU H}{n:Nat}(ht:P.underlying t=GW (.slice e))(h:Rd enc P w base sp held t d):
  cV P (n+1) t d=[.ab]\/∃(x:Bool) (kQ:List (xU H)),cV P (n+1) t d=[.ap x kQ.length (kQ.flatMap fun y=>cV P n e y)]/\∀y,y∈kQ->Rd enc P w base sp held e y:=by
 obtain⟨bl,cs,ps,h⟩:=h
 cases bl with
 | zero=>simp[DataW.trod] at h
 | succ bl=>
  unfold DataW.trod at h
  split at h
  all_goals first
   | (rename_i hu;rw[ht] at hu;cases hu;done)
   | skip
  .simp only [yd,yo] at h;obtain⟨rfl,rfl⟩:=h;exact .inl (by simp only[cV,ht])
  .rename_i e' a len cap hu;rw[ht] at hu;injection hu with hu
   injection hu with hu
   subst hu;simp only at h
   split at h
   case isFalse=>cases h
   cases h1:(List.range len).mapM fun i=>(w.cells? base (a.add (i*P.cellsOf e)) (P.cellsOf e)).bind (DataW.trod enc P w base sp held bl e) with
   | none=>rw[h1] at h;simp at h
   | some kQ=>
    rw[h1] at h;obtain⟨rest,_,h⟩:=wP.1 h;obtain⟨rfl,rfl⟩:=h;refine .inr ⟨(rest.map (·.1)).isEmpty,kQ.map (·.1),by simp only[cV,ht,yv],?_⟩;intro y hy;obtain⟨p,hp,rfl⟩:=vI.1 hy;obtain⟨i,hi⟩:=mapM_mem h1 p hp;obtain⟨ck,_,eI⟩:=Option.bind_eq_some_iff.1 hi;exact⟨bl,ck,p.2,eI⟩
  grind
def anA{t:yE}{fs:Array ub}{d:xU H}{n:Nat}(ht:P.underlying t=GW (.struct fs))(h:Rd enc P w base sp held t d):
  ∃ds:List (xU H),ds.length=fs.toList.length/\cV P (n+1) t d=(fs.toList.zip ds).flatMap (fun x=>cV P n x.1.type x.2)/\∀i (h1:i<fs.toList.length) (h2:i<ds.length),Rd enc P w base sp held fs.toList[i].type ds[i]:=by
 obtain⟨bl,cs,ps,h⟩:=h
 cases bl with
 | zero=>simp[DataW.trod] at h
 | succ bl=>
  unfold DataW.trod at h
  split at h
  all_goals first
   | (rename_i hu;rw[ht] at hu;cases hu;done)
   | (cases h;done)
   | skip
  rename_i cs x1 Oi Tl hu;rw[ht] at hu;injection hu with hu
  injection hu with hu
  subst hu
  split at h
  case isFalse=>cases h
  obtain⟨xs,h1,h⟩:=wP.1 h;obtain⟨rfl,rfl⟩:=h;refine⟨xs.map (·.1),by simp[Pq h1],by simp only[cV,ht],?_⟩;have key:∀{r:List ub} {xs:List (xU H×List wM)},r.mapM (fun f=>DataW.trod enc P w base sp held bl f.type ((cs.drop f.offset).take (P.cellsOf f.type)))=GW xs->
    ∀i (h1:i<r.length) (h2:i<(xs.map (·.1)).length),Rd enc P w base sp held r[i].type (xs.map (·.1))[i]:=by
   intro r
   induction r with
   | nil=>intro xs h i h1;exact absurd h1 (uj i)
   | cons f r ih=>
    intro xs h i h1 h2;rw[uL] at h
    cases g1:DataW.trod enc P w base sp held bl f.type ((cs.drop f.offset).take (P.cellsOf f.type)) with
    | none=>simp[g1] at h
    | some x=>
     cases g2:r.mapM (fun f=>DataW.trod enc P w base sp held bl f.type ((cs.drop f.offset).take (P.cellsOf f.type))) with
     | none=>simp[g1,g2] at h
     | some ys=>
      simp only[g1,g2,wF,vU,wX,yd] at h;subst h
      cases i with
      | zero=>exact⟨bl,_,x.2,g1⟩
      | succ i=>exact ih g2 i (by simpa using h1) (by simpa using h2)
  exact key h1
def apN{t e:yE}{k:Nat}{d:xU H}{n:Nat}(ht:P.underlying t=GW (.array k e))(h:Rd enc P w base sp held t d):
  ∃ds:List (xU H),ds.length=k/\cV P (n+1) t d=ds.flatMap (fun x=>cV P n e x)/\∀y,y∈ds->Rd enc P w base sp held e y:=by
 obtain⟨bl,cs,ps,h⟩:=h
 cases bl with
 | zero=>simp[DataW.trod] at h
 | succ bl=>
  unfold DataW.trod at h
  split at h
  all_goals first
   | (rename_i hu;rw[ht] at hu;cases hu;done)
   | (cases h;done)
   | skip
  rename_i cs x1 Oi k' e' hu;rw[ht] at hu;injection hu with hu
  injection hu with zM Cj
  subst zM;subst Cj
  split at h
  case isFalse=>cases h
  obtain⟨xs,h1,h⟩:=wP.1 h;obtain⟨rfl,rfl⟩:=h;refine⟨xs.map (·.1),by simp[Pq h1],by simp only[cV,ht],fun y hy=>?_⟩;obtain⟨p,hp,rfl⟩:=vI.1 hy;obtain⟨i,hi⟩:=mapM_mem h1 p hp;exact⟨bl,_,p.2,hi⟩
end
end
section
open Go
inductive Ty
 | int (k:xj)
 | ay (k:wD)
 | bool
 | str
 | sl (e:Ty)
 | nil
 | cat (a b:Ty)
 | ar (n:Nat) (e:Ty)
def kJ:Ty->List AV->Prop
 | .int k,l=>∃z,l=[.int k z]/\(Lit.int k z).wf=ycN
 | .ay k,l=>∃b,l=[.ay k b]/\(Lit.float k b).wf=ycN
 | .bool,l=>∃b,l=[.bool b]
 | .str,l=>∃s:List Nat,l=[.str s]/\s.length<9223372036854775808/\∀c,c∈s->c<256
 | .sl e,l=>l=[.ab]\/∃(x:Bool) (ps:List (List AV)),l=[.ap x ps.length ps.flatten]/\∀p,p∈ps->kJ e p
 | .nil,l=>l=[]
 | .cat a b,l=>∃x y,l=x++y/\kJ a x/\kJ b y
 | .ar n e,l=>∃ps:List (List AV),ps.length=n/\l=ps.flatten/\∀p,p∈ps->kJ e p
def oL:List (Option Ty)->Option Ty
 | []=>GW .nil
 | some a::r=>match oL r with
  | some b=>GW (.cat a b)
  | none=>none
 | none::_=>none
def gX(P:xy):Nat->yE->Option Ty
 | 0,_=>none
 | n+1,t=>
  match P.underlying t with
  | some .bool=>GW .bool
  | some (.int k)=>GW (.int k)
  | some (.float k)=>GW (.ay k)
  | some .string=>GW .str
  | some (.slice e)=>(gX P n e).map .sl
  | some (.struct fs)=>oL (fs.toList.map fun f=>gX P n f.type)
  | some (.array k e)=>(gX P n e).map (.ar k)
  | _=>none
section
variable {H:Type}{enc:yE×yj->H}{P:xy}{w:ym}{base:Nat}{sp:Nat->Bool}{held:Bool}
def avi{t:yE}{k:wD}{d:xU H}{n:Nat}(ht:P.underlying t=GW (.float k))(h:Rd enc P w base sp held t d):∃b,cV P (n+1) t d=[.ay k b]/\(Lit.float k b).wf=ycN:=by
 obtain⟨bl,cs,ps,h⟩:=h
 cases bl with
 | zero=>simp[DataW.trod] at h
 | succ bl=>
  unfold DataW.trod at h
  split at h
  all_goals first
   | (rename_i hu;rw[ht] at hu;cases hu;done)
   | skip
  .rename_i k1 k2 z hu;rw[ht] at hu;injection hu with hu
   injection hu with hu
   subst hu
   split at h
   .rename_i hw;obtain⟨rfl,rfl⟩:=h;exact⟨z,by simp only[cV,ht],hw.2⟩
   .cases h
  grind
def arS{t:yE}{d:xU H}{n:Nat}(ht:P.underlying t=GW .bool)(h:Rd enc P w base sp held t d):∃b,cV P (n+1) t d=[.bool b]:=by
 obtain⟨bl,cs,ps,h⟩:=h
 cases bl with
 | zero=>simp[DataW.trod] at h
 | succ bl=>
  unfold DataW.trod at h
  split at h
  all_goals first
   | (rename_i hu;rw[ht] at hu;cases hu;done)
   | skip
  .simp only [yd,yo] at h;obtain⟨rfl,rfl⟩:=h;rename_i b _;exact⟨b,by simp only[cV,ht]⟩
  grind
def avj{t:yE}{d:xU H}{n:Nat}(ht:P.underlying t=GW .string)(h:Rd enc P w base sp held t d):
  ∃s:List Nat,cV P (n+1) t d=[.str s]/\s.length<9223372036854775808/\∀c,c∈s->c<256:=by
 obtain⟨bl,cs,ps,h⟩:=h
 cases bl with
 | zero=>simp[DataW.trod] at h
 | succ bl=>
  unfold DataW.trod at h
  split at h
  all_goals first
   | (rename_i hu;rw[ht] at hu;cases hu;done)
   | skip
  .rename_i s hu
   split at h
   .rename_i hs;obtain⟨rfl,rfl⟩:=h;refine⟨_,by simp only[cV,ht];rfl,?_,fun c hc=>?_⟩
    .simp only [yv,Array.length_toList];have h1:s.size<=9223372036854775807:=hs;have h2:s.data.size=s.size:=rfl;omega
    .obtain ⟨b,_,rfl⟩:=vI.1 hc;exact b.toNat_lt
   .cases h
  grind
def abw{n:Nat}(ih:∀{t:yE} {T:Ty} {d:xU H},gX P n t=GW T->Rd enc P w base sp held t d->kJ T (cV P n t d)):
  ∀(fs:List ub) (ds:List (xU H)) (T:Ty),oL (fs.map fun f=>gX P n f.type)=GW T->ds.length=fs.length->(∀i (h1:i<fs.length) (h2:i<ds.length),Rd enc P w base sp held fs[i].type ds[i])->
   kJ T ((fs.zip ds).flatMap fun x=>cV P n x.1.type x.2)
 | [],ds,T,hT,_,_=>by
  simp only[wW,oL,yd] at hT;subst hT;simp[kJ]
 | f::fs,[],T,_,hl,_=>by simp at hl
 | f::fs,d::ds,T,hT,hl,hr=>by
  simp only[xi] at hT
  cases h1:gX P n f.type with
  | none=>simp[h1,oL] at hT
  | some a=>
   cases h2:oL (fs.map fun f=>gX P n f.type) with
   | none=>simp[h1,h2,oL] at hT
   | some b=>
    simp only[h1,h2,oL,yd] at hT;subst hT;exact⟨_,_,rfl,ih h1 (hr 0 (by simp) (by simp)),abw ih fs ds b h2 (by simpa using hl) (fun i h1 h2=>hr (i+1) (by simpa using h1) (by simpa using h2))⟩
def aeH:∀(n:Nat) {t:yE} {T:Ty} {d:xU H},gX P n t=GW T->Rd enc P w base sp held t d->kJ T (cV P n t d)
 | 0,t,T,d,hT,_=>by simp[gX] at hT
 | n+1,t,T,d,hT,hr=>by
  have ih:=@aeH n
  cases hu:P.underlying t with
  | none=>simp[gX,hu] at hT
  | some u=>
   cases u with
   | slice e=>
    simp only[gX,hu] at hT;obtain⟨E,hE,rfl⟩:=wP.1 hT
    rcases apM (n:=n) hu hr with h | ⟨x,kQ,h,hm⟩
    .exact .inl h
    .refine .inr ⟨x,kQ.map (cV P n e),by rw[h,yv,ybw],fun p hp=>?_⟩
     grind
   | struct fs=>
    simp only[gX,hu] at hT;obtain⟨ds,e1,e2,e3⟩:=anA (n:=n) hu hr;rw[e2];exact abw ih fs.toList ds T hT e1 e3
   | array k e=>
    simp only[gX,hu] at hT;obtain⟨E,hE,rfl⟩:=wP.1 hT;obtain⟨ds,e1,e2,e3⟩:=apN (n:=n) hu hr;refine⟨ds.map (cV P n e),by simp[e1],by rw[e2,ybw],fun p hp=>?_⟩
    grind
   | int k=>
    simp only[gX,hu,yd] at hT;subst hT;exact avh hu hr
   | float k=>
    simp only[gX,hu,yd] at hT;subst hT;exact avi hu hr
   | bool=>
    simp only[gX,hu,yd] at hT;subst hT;exact arS hu hr
   | string=>
    simp only[gX,hu,yd] at hT;subst hT;exact avj hu hr
   | _=>simp[gX,hu] at hT
def IQ:Ty->List AV->AV
 | .nil,l | .cat _ _,l | .ar _ _,l=>.agg l
 | _,l=>l.headD .undef
def anB:∀{l:List (Option Ty)} {T:Ty},oL l=GW T->∀x,IQ T x=.agg x
 | [],T,h=>by simp only[oL,yd] at h;subst h;exact fun _=>rfl
 | none::r,T,h=>by simp[oL] at h
 | some a::r,T,h=>by
  cases h1:oL r with
  | none=>simp[oL,h1] at h
  | some b=>
   simp only[oL,h1,yd] at h;subst h;exact fun _=>rfl
def ax2{n:Nat}{t:yE}{T:Ty}{d:xU H}(hT:gX P n t=GW T):mQ P n t d=IQ T (cV P n t d):=by
 cases n with
 | zero=>simp[gX] at hT
 | succ n=>
  cases hu:P.underlying t with
  | none=>simp[gX,hu] at hT
  | some u=>
   cases u with
   | slice e=>
    simp only[gX,hu] at hT;obtain⟨E,hE,rfl⟩:=wP.1 hT;simp only[mQ,hu,IQ]
   | struct fs=>
    simp only[gX,hu] at hT;rw[anB hT];simp only[mQ,hu]
   | array k e=>
    simp only[gX,hu] at hT;obtain⟨E,hE,rfl⟩:=wP.1 hT;simp only[mQ,hu,IQ]
   | _=>
    simp only[gX,hu,yd,reduceCtorEq] at hT<;>
    (subst hT
     simp only[mQ,hu,IQ])
def MB:List Ty->List (List AV)->List AV
 | T::Ts,l::ls=>IQ T l::MB Ts ls
 | _,_=>[]
def adf{n:Nat}:∀{ts:List yE} {Ts:List Ty} {vs:List yj} {ds:List (xU H)} {ps:List wM},(ts.map (gX P n))=Ts.map GW->DataW.TrodAll enc P w base sp held ts vs ds ps->
  ∃ls,bi kJ Ts ls/\BB P n ts ds=MB Ts ls/\ds.length=ts.length
 | [],[],[],[],ps,_,_=>⟨[],trivial,rfl,rfl⟩
 | t::ts,T::Ts,v::vs,d::ds,ps,hT,⟨p,q,⟨bl,h1⟩,h2,_⟩=>by
  simp only[xi,xQ] at hT;have⟨ls,k1,k2,k3⟩:=adf hT.2 h2;exact⟨cV P n t d::ls,⟨aeH n hT.1 ⟨bl,_,_,h1⟩,k1⟩,by simp only[BB,MB,k2,ax2 hT.1],by simp[k3]⟩
 | [],_::_,_,_,_,h,_=>by simp at h
 | _::_,[],_,_,_,h,_=>by simp at h
 | [],[],_::_,_,_,_,h=>by simp[DataW.TrodAll] at h
 | [],[],[],_::_,_,_,h=>by simp[DataW.TrodAll] at h
 | _::_,_,[],_,_,_,h=>by simp[DataW.TrodAll] at h
 | _::_,_,_::_,[],_,_,h=>by simp[DataW.TrodAll] at h
def avk{α β:Type}{p:α->β->Prop}{a:α}:∀{l:List β},bi p [a] l->∃x,l=[x]/\p a x
 | [x],h=>⟨x,rfl,h.1⟩
 | [],h=>h.elim
 | _::_::_,h=>h.2.elim
def avl{α β:Type}{p:α->β->Prop}{a b:α}:∀{l:List β},bi p [a,b] l->∃x y,l=[x,y]/\p a x/\p b y
 | x::l,h=>let ⟨y,h1,h2⟩:=avk h.2;⟨x,y,by rw[h1],h.1,h2⟩
 | [],h=>h.elim
end
end
abbrev WC:Ty:=.sl (.int .i64)
abbrev aea:Ty:=.sl WC
def adg:∀{ps:List (List AV)},(∀p,p∈ps->kJ (.int .i64) p)->∃zs:List Int,zs.length=ps.length/\ps.flatten=zs.map aa
 | [],_=>⟨[],rfl,rfl⟩
 | p::ps,h=>by
  obtain⟨z,rfl,_⟩:=h p wS;have⟨zs,h1,h2⟩:=adg (ps:=ps) (fun q hq=>h q (wA _ hq));exact⟨z::zs,by simp[h1],by simp[h2]⟩
def apO{l:List AV}(h:kJ WC l):∃(v:AV) (zs:List Int),l=[v]/\bh v zs:=by
 rcases h with rfl | ⟨x,ps,rfl,h⟩
 .exact ⟨_,[],rfl,q8⟩
 .have ⟨zs,h1,h2⟩:=adg h;refine⟨_,zs,rfl,?_⟩;rw[h2,<-h1];exact lF x zs
def adh:∀{ps:List (List AV)},(∀p,p∈ps->kJ WC p)->∃s:List (List Int),s.length=ps.length/\ps.flatten.length=ps.length/\bi bh ps.flatten s
 | [],_=>⟨[],rfl,rfl,trivial⟩
 | p::ps,h=>by
  obtain⟨v,zs,rfl,hv⟩:=apO (h p wS);have⟨s,h1,h2,h3⟩:=adh (ps:=ps) (fun q hq=>h q (wA _ hq));exact⟨zs::s,by simp[h1],by simp[h2],hv,h3⟩
def alZ{l:List AV}(h:kJ aea l):∃(v:AV) (s:List (List Int)),l=[v]/\gI v s:=by
 rcases h with rfl | ⟨x,ps,rfl,h⟩
 .exact ⟨_,[],rfl,ao6⟩
 .have ⟨s,h1,h2,h3⟩:=adh h;refine⟨_,s,rfl,ps.flatten,?_,h3⟩
  have:=ru x ps.flatten
  rwa[h2] at this
def K3(n:Nat):10^n<=2^(4*n):=by
 rw[yan];exact uf (by decide) n
def anC{b:Nat}{r:List Nat}(h:dA (b::r)=ycN):48<=b/\b<=57:=by
 simp only[dA,ye] at h
 simp_all
def aeI(h:Tx P L){ds:List Nat}{N:Nat}(hD:cQ ds 0=GW N)(hl:ds.length<=4000000000){neg:Bool}{o1 o2:AV}:
  bP P L [0,2,3,4] Hr (fun m st=>∃(pre rest:List Nat) (a:Nat) (s:Int) (w:AV),st=⟨[(0,.str rest),(2,.ptr 0 0),(3,.bool neg),(4,.ptr 1 0)],[(1,.cells ycN ycN ycN 2 [aa s,w]),(0,.cells ycN ycN ycN 2 [o1,o2])],2,0⟩/\ds=pre++rest/\cQ pre 0=GW a/\df s w a/\rest.length=m) (fun ex st'=>∃tm s w,st'=⟨tm,[(1,.cells ycN ycN ycN 2 [aa s,w]),(0,.cells ycN ycN ycN 2 [o1,o2])],2,0⟩/\ex=.exit 0/\ai tm 2=.ptr 0 0/\ai tm 3=.bool neg/\ai tm 4=.ptr 1 0/\df s w N):=by
 apply bQ;rintro m st ⟨pre,rest,a,s,w,rfl,GF,eX,hn,rfl⟩;have⟨l1,u1⟩:=hn.aM;have mu:=hD;rw[GF,KR,eX] at mu;have mu:cQ rest a=GW N:=mu;have hlen:pre.length+rest.length<=4000000000:=by rw[GF,yM] at hl;exact hl
 by_cases h0:rest.length=0
 .right
  have hr:rest=[]:=yt h0;subst hr
  have:a=N:=by simpa[cQ] using mu
  subst this;simp only[go_sem,Hr,yN,show ¬(0:Int)<((0:Nat):Int) by lia];exact⟨_,_,rfl,by simp,_,s,w,rfl,rfl,rfl,rfl,rfl,hn⟩
 .left
  obtain⟨n,nt⟩:∃n,n=min 18 rest.length:=⟨_,rfl⟩;have agD:(if (rest.length:Int)<18 then (rest.length:Int) else 18)=(n:Int):=by split<;>lia
  have jR:rest.take n++rest.drop n=rest:=wc n rest;obtain⟨a',kH⟩:∃a',cQ (rest.take n) a=GW a':=by
   rw[<-jR,KR] at mu
   cases hq:cQ (rest.take n) a with
   | none=>rw[hq] at mu;cases mu
   | some a'=>exact⟨a',rfl⟩
  obtain⟨v,hv⟩:∃v,cQ (rest.take n) 0=GW v:=by
   have:∀(l:List Nat) (x y b:Nat),cQ l x=GW y->∃z,cQ l b=GW z:=by
    intro l
    induction l with
    | nil=>intro x y b _;exact⟨b,rfl⟩
    | cons c l ih=>
     intro x y b hh;simp only[cQ] at hh ⊢
     cases hb:(yJ 48 c&&yJ c 57) with
     | false=>rw[hb] at hh;cases hh
     | true=>rw[hb] at hh;exact ih _ _ _ hh
   exact this _ _ _ 0 kH
  have ahq:=apG (a:=a) hv;have ZH:(rest.take n).length=n:=by rw[yO];lia
  rw[ZH,kH,yd] at ahq;have XO:=Vr hv;rw[ZH] at XO;have aEO:v<1000000000000000000:=yR XO (xe (n:=10) (by decide) (show n<=18 by lia));have e1:=arO (P:=P) h.XG (f:=D P L) (s:=rest.take n) (by lia) (by lia) hv;have⟨t1,t2⟩:=F3 h.toNu (z:=10) (by decide) (by decide);have⟨t3,t4⟩:=F3 h.toNu (z:=(v:Int)) (by lia) (by lia);have⟨p,e2,hp⟩:=XI h.toNu h.zx t2 (K:=4) (k:=n) (by unfold Bd;decide) (by lia) (by lia)
  have halt:=Vr eX;have ba:Bd (4*pre.length) (a:Int):=yR halt (K3 _);have bp:Bd (4*n+1) ((10:Int)^n):=Bd.pow (k:=4) (by unfold Bd;decide) n
  have⟨q,e3,hq⟩:=Dz h.toNu (v:=.agg [aa s,w]) ⟨s,w,rfl,hn⟩ hp (K:=4*pre.length+4*n+1) (ba.mono (by lia)) (bp.mono (by lia)) (by lia);have bv':Bd (4*n) (v:Int):=yR XO (K3 _);have⟨r,e4,hr⟩:=Nt h.toNu hq t4 (K:=4*pre.length+4*n+1) ((ba.mul bp).mono (by lia)) (bv'.mono (by lia)) (by lia);have aO:(a:Int)*10^n+(v:Int)=(a':Int):=by
   rw[ahq]
   simp
  rw[aO] at hr;obtain⟨s2,w2,rfl,h2⟩:=hp;obtain⟨s3,w3,rfl,h3⟩:=hq;obtain⟨s4,w4,rfl,h4⟩:=hr;have⟨l2,u2⟩:=h2.aM;have⟨l3,u3⟩:=h3.aM;have⟨l4,u4⟩:=h4.aM;have un:=Af;have c1:ja rest (GW 0) (GW n)=GW (.str (rest.take n)):=by rw[mL (by lia) (by lia),yg]
  have c2:ja rest (GW n) (GW rest.length)=GW (.str (rest.drop n)):=by rw[mL (by lia) (by lia),xP]
  simp only[go_sem,ya,Hr,show (0:Int)<(rest.length:Nat) by lia,aey,ac0,agD,eZ,fG,dU,c1,c2,e1,cA,t1,t3,cm,u1.ak,u2.ak,u3.ak,un.ak,e2,e3,e4,a8,cA,yg,eD u4];refine⟨_,(rest.drop n).length,rfl,by rw[xX];lia,pre++rest.take n,rest.drop n,a',s4,w4,by simp only[go_sem,ya,yb,ae],by rw[xJ,jR];exact GF,by rw[KR,eX];exact kH,h4,rfl⟩
def Uw{b:Nat}{r:List Nat}(h:48<=b):il [45] (b::r)=ycO:=by
 show (yp 45 b&&ycN)=ycO
 rw[iG (by lia)];rfl
def Nx(h:Tx P L){z:Int}(hz:(aV z).length<=4000000000):∃r,af P L 110 [.str (aV z)] r/\cJ r z:=by
 have hN:=EA z.natAbs;have un:=Af;have zI:(aC z.natAbs).length<=4000000000:=by
  by_cases h0:z<0
  .rw [oz h0] at hz;simp at hz;lia
  .rw [<-pE,yI h0] at hz;simpa using hz
 have ba:Bd (4*(aC z.natAbs).length) (z.natAbs:Int):=yR (Vr hN) (K3 _);by_cases h0:z<0
 .have hs:aV z=45::aC z.natAbs:=oz h0;have e1:bS P L (D P L) 152 [.str (45::aC z.natAbs),.str [45]]=GW (.bool ycN):=by rw[j8 h.ahl];rfl
  have e2:bS P L (D P L) 153 [.str (45::aC z.natAbs),.str [45]]=GW (.str (aC z.natAbs)):=by rw[j8 h.XF];rfl
  have jL:∃s w r,af P L 110 [.str (aV z)] r/\df s w (z.natAbs:Int)/\af P L 147 [.agg [aa s,w]] r/\cJ r (-(z.natAbs:Int)):=by
   rw[hs];unfold af;rw[aF h.ahn];simp only[go_sem,ya,yb,Rr,aR,e1,e2,un.pu,un.one,eD un];generalize hq:D P L (.loop _ Hr) _=q;obtain⟨ex,st,rfl,tm,s,w,rfl,rfl,t2,t3,t4,h5⟩:=aW hq (aeI (P:=P) (L:=L) h hN zI (neg:=ycN) (o1:=.int .i64 0) (o2:=.ab) (aC z.natAbs).length) ⟨[],aC z.natAbs,0,0,.ab,by simp only[go_sem,ya,yb,ae]<;>rfl,rfl,rfl,.inl ⟨rfl,rfl,by decide,by decide⟩,rfl⟩
   have⟨l5,u5⟩:=h5.aM;have⟨r,e3,hr⟩:=IP h.toNu (v:=.agg [aa s,w]) ⟨s,w,rfl,h5⟩ (K:=4*(aC z.natAbs).length) ba (by lia);have bR:=hr;obtain⟨s6,w6,rfl,h6⟩:=hr;have⟨l6,u6⟩:=h6.aM;refine⟨s,w,_,?_,h5,e3,bR⟩;simp only[go_sem,ya,yb,ae,t2,t3,t4,cA,cm,u5.ak,e3,a8,cX,cZ,cA,yg,oK u6,eD u6]
  have⟨s,w,r,g1,_,_,g2⟩:=jL;rw[show -((z.natAbs:Nat):Int)=z by lia] at g2;exact⟨r,g1,g2⟩
 .have hs:aV z=aC z.natAbs:=by rw[<-pE,yI h0];rfl
  have⟨b,r0,hb,jQ,A6⟩:=G4 z.natAbs;have e1:bS P L (D P L) 152 [.str (aC z.natAbs),.str [45]]=GW (.bool ycO):=by
   rw[j8 h.ahl,hb];show GW (AV.bool (il [45] (b::r0)))=_
   rw[Uw jQ]
  have e2:bS P L (D P L) 153 [.str (aC z.natAbs),.str [45]]=GW (.str (aC z.natAbs)):=by
   rw[j8 h.XF,hb];show GW (AV.str (bif il [45] (b::r0) then _ else _))=_
   rw[Uw jQ];rfl
  have jL:∃s w,af P L 110 [.str (aV z)] (.agg [aa s,w])/\df s w (z.natAbs:Int):=by
   rw[hs];unfold af;rw[aF h.ahn];simp only[go_sem,ya,yb,Rr,aR,e1,e2,un.pu,un.one,eD un];generalize hq:D P L (.loop _ Hr) _=q;obtain⟨ex,st,rfl,tm,s,w,rfl,rfl,t2,t3,t4,h5⟩:=aW hq (aeI (P:=P) (L:=L) h hN zI (neg:=ycO) (o1:=.int .i64 0) (o2:=.ab) (aC z.natAbs).length) ⟨[],aC z.natAbs,0,0,.ab,by simp only[go_sem,ya,yb,ae]<;>rfl,rfl,rfl,.inl ⟨rfl,rfl,by decide,by decide⟩,rfl⟩
   have⟨l5,u5⟩:=h5.aM;refine⟨s,w,?_,h5⟩;simp only[go_sem,ya,yb,ae,t2,t3,t4,cA,cX,cZ,cA,yg,oK u5,eD u5]
  have⟨s,w,g1,g2⟩:=jL;rw[show ((z.natAbs:Nat):Int)=z by lia] at g2;exact⟨_,g1,s,w,rfl,g2⟩
def KK(b:Nat)(r:List Nat)(c:Nat):il [c] (b::r)=yp c b:=by
 show (yp c b&&ycN)=_
 grind
def aaU:∀(l r:List Nat) (k:Nat),(∀x,x∈l->x≠47)->nJ [47] (l++47::r) k=GW (k+l.length)
 | [],r,k,_=>by
  show (bif il [47] (47::r) then GW k else _)=_
  rw[KK];rfl
 | b::l,r,k,h=>by
  show (bif il [47] (b::(l++47::r)) then GW k else nJ [47] (l++47::r) (k+1))=_
  rw[KK,iG (fun e=>h b (by simp) e.symm),yX,aaU l r (k+1) (fun x hx=>h x (by simp[hx])),yx]
  grind
def index_none:∀(l:List Nat) (k:Nat),(∀x,x∈l->x≠47)->nJ [47] l k=none
 | [],k,_=>rfl
 | b::l,k,h=>by
  show (bif il [47] (b::l) then GW k else nJ [47] l (k+1))=_
  rw[KK,iG (fun e=>h b (by simp) e.symm),yX,index_none l (k+1) (fun x hx=>h x (by simp[hx]))]
def adi:∀{l:List Nat},dA l=ycN->∀x,x∈l->48<=x/\x<=57
 | [],_,x,hx=>by simp at hx
 | b::l,h,x,hx=>by
  have h1:=anC h;simp only[dA,ye] at h;rcases xx.1 hx with rfl | hx
  .grind
  .exact adi h.2 x hx
def akp(z:Int):∀x,x∈aV z->x≠47:=fun x hx=>by
 rw[<-pE] at hx;rcases List.mem_append.1 hx with h | h
 .grind
 .have:=adi (KI _) x h;lia
def ZI(h:Tx P L){a:Rat}(hl:(RT a).length<4000000000):∃r,af P L 62 [.str (RT a)] r/\bE r a:=by
 have I5:=akp a.num;unfold RT at hl ⊢;by_cases hd:a.den=1
 .rw [yK hd,wz] at hl ⊢;have⟨p,e1,hp⟩:=Nx h (z:=a.num) (by lia);have⟨r,e2,hr⟩:=XD h.toFr' hp;rw[<-Vp a hd] at hr;have bR:=hr;obtain⟨s1,w1,rfl,h1⟩:=hp;obtain⟨s2,w2,s3,w3,rfl,h2,h3⟩:=hr;have⟨l1,u1⟩:=h1.aM;have⟨l2,u2⟩:=h2.aM;have⟨l3,u3⟩:=h3.aM;have e0:bS P L (D P L) 109 [.str (aV a.num),.str [47]]=GW (.av [.str (aV a.num),.str [],.bool ycO]):=by
   rw[j8 h.XH];show (bif yP (aV a.num).length 4294967281 then (match nJ [47] (aV a.num) 0 with | some i=>_ | none=>GW (AV.av [.str (aV a.num),.str [],.bool ycO])) else none)=_
   rw[ml (by lia),index_none _ _ I5];rfl
  refine⟨_,?_,bR⟩;unfold af;rw[aF h.Tg];simp only[go_sem,ya,yb,SR,aR,e0,e1,a8,u1.ak,cm,e2,kT u2 u3,cX,cZ,yg,fW,kU u2 u3]
 .rw [yI hd] at hl ⊢;simp only[yM,yx] at hl;have⟨p,e1,hp⟩:=Nx h (z:=a.num) (by lia);have⟨q,e2,hq⟩:=Nx h (z:=(a.den:Int)) (by rw[mJ];lia)
  rw[mJ] at e2;obtain⟨s1,w1,rfl,h1⟩:=hp;obtain⟨s2,w2,rfl,h2⟩:=hq;have⟨l1,u1⟩:=h1.aM;have⟨l2,u2⟩:=h2.aM;have e0:bS P L (D P L) 109 [.str (aV a.num++47::aC a.den),.str [47]]=GW (.av [.str (aV a.num),.str (aC a.den),.bool ycN]):=by
   rw[j8 h.XH];show (bif yP (aV a.num++47::aC a.den).length 4294967281 then (match nJ [47] (aV a.num++47::aC a.den) 0 with | some i=>GW (AV.av [.str ((aV a.num++47::aC a.den).take i),.str ((aV a.num++47::aC a.den).drop (i+1)),.bool ycN]) | none=>_) else none)=_
   rw[ml (by simp;lia),aaU _ _ _ I5]
   simp only[yf,yC,uM];rw[show (aV a.num).length+1=(aV a.num++[47]).length by simp,show aV a.num++47::aC a.den=(aV a.num++[47])++aC a.den by simp,ue]
  refine⟨.agg [aa s1,w1,aa s2,w2],?_,s1,w1,s2,w2,rfl,h1,h2⟩;unfold af;rw[aF h.Tg];simp only[go_sem,ya,yb,SR,aR,e0,e1,e2,a8,u1.one,u2.one,EJ,EK,kT u1 u2,cX,cZ,yg,fW,kU u1 u2]
def eb(p:List Nat):Bool:=dA p&&(match p with | []=>ycO | b::r=> !(yp b 48)||r.isEmpty)
def gE(p:List Nat):Nat:=(cQ p 0).getD 0
def B2(neg:Bool)(t:List Nat):Int:=
 if eb (t.take (bZ t))=ycO\/(neg=ycN/\t.take (bZ t)=[48]) then 1
 else if bZ t<t.length/\(eb (t.drop (bZ t+1))=ycO\/t.drop (bZ t+1)=[48]\/t.drop (bZ t+1)=[49]) then 1
 else if 600<bZ t\/600<t.length-bZ t-1 then 4
 else if bZ t<t.length/\wL (gE (t.take (bZ t))) (gE (t.drop (bZ t+1)))≠1 then 1
 else 0
def cK:List Nat->Int
 | []=>B2 ycO []
 | b::t=>if b=45 then B2 ycN t else B2 ycO (b::t)
def adj:∀{p:List Nat} (a:Nat),dA p=ycN->∃n,cQ p a=GW n
 | [],a,_=>⟨a,rfl⟩
 | b::r,a,h=>by
  have h':=h;simp only[dA,ye] at h';have⟨n,hn⟩:=adj (p:=r) (10*a+(b-48)) h'.2;exact⟨n,by simp only[cQ,h'.1.1,h'.1.2,wj,yC];exact hn⟩
def G5:∀(k:Nat) {p:List Nat},p.length=k->eb p=ycN->aC (gE p)=p:=by
 intro k
 induction k with
 | zero=>intro p hl h;rw[yt hl] at h;simp[eb] at h
 | succ k ih=>
  intro p hl h;rcases snoc p with rfl | ⟨m,a,rfl⟩
  .grind
  .simp only [eb,ye,OX] at h;have⟨⟨h1,h2⟩,h3⟩:=h;simp only[dA,ye] at h2;have ha1:=yu h2.1.1;have ha2:=yu h2.1.2;have⟨n,hn⟩:=adj 0 h1;have hv:gE (m++[a])=10*n+(a-48):=by
    unfold gE;rw[KR,hn];simp only[wF,cQ,h2.1.1,h2.1.2,wj,yC,Option.getD_some]
   cases m with
   | nil=>
    have:n=0:=by simpa[cQ] using hn.symm
    rw[hv,qY (by lia)]
    simp;lia
   | cons b r=>
    have hd:eb (b::r)=ycN:=by
     simp only[eb,h1,wv]
     cases r with
     | nil=>simp
     | cons c r=>simp at h3 ⊢;exact h3
    have hm:=ih (p:=b::r) (by simpa using hl) hd;have hnv:gE (b::r)=n:=by unfold gE;rw[hn];rfl
    rw[hnv] at hm;have jq:n≠0:=fun e=>by
     rw[qY (by lia)] at hm
     simp_all
    rw[hv,zh (by lia),show (10*n+(a-48))/10=n by lia,show 48+(10*n+(a-48))%10=a by lia,hm]
def aat(t:List Nat):bZ t<t.length->t=t.take (bZ t)++47::t.drop (bZ t+1):=by
 induction t with
 | nil=>simp
 | cons b r ih=>
  intro h;simp only[bZ] at h ⊢
  grind
def aci{n:Int}{d:Nat}(hd:0<d)(hg:wL n.natAbs d=1):∃r:Rat,r.num=n/\r.den=d:=⟨⟨n,d,by lia,hg⟩,rfl,rfl⟩
def avm{s:List Nat}(h:cK s=0):∃r:Rat,s=RT r/\(aC r.num.natAbs).length<=600/\(aC r.den).length<=600:=by
 have key:∀(neg:Bool) (t:List Nat),B2 neg t=0->∃r:Rat,(if neg=ycN then [45] else [])++t=RT r/\(aC r.num.natAbs).length<=600/\(aC r.den).length<=600:=by
  intro neg t h;unfold B2 at h
  split at h
  .grind
  rename_i h1
  split at h
  .grind
  rename_i h2
  split at h
  .grind
  rename_i h3
  split at h
  .grind
  rename_i h4;have hle:=KH t;have hp:eb (t.take (bZ t))=ycN:=by
   cases hb:eb (t.take (bZ t)) with
   | true=>rfl
   | false=>exact absurd (.inl hb) h1
  have zT:=G5 _ rfl hp;generalize hn:gE (t.take (bZ t))=n at*
  have ax3:neg=ycN->n≠0:=fun hh e=>by
   subst e;exact h1 (.inr ⟨hh,by rw[<-zT];rfl⟩)
  have hint:(if neg=ycN then [45] else [])++aC n=aV (if neg=ycN then -(n:Int) else n):=by
   cases neg with
   | true=>
    have:=ax3 rfl
    simp only[xS];rw[oz (by lia)]
    simp
   | false=>simp[mJ]
  have XP:(if neg=ycN then -(n:Int) else n).natAbs=n:=by split<;>lia
  have Ec:(aC n).length<=600:=by rw[zT,yO];lia
  by_cases hs:bZ t<t.length
  .have hq:eb (t.drop (bZ t+1))=ycN:=by
    cases hb:eb (t.drop (bZ t+1)) with
    | true=>rfl
    | false=>exact absurd ⟨hs,.inl hb⟩ h2
   have qR:=G5 _ rfl hq;have hg:wL n (gE (t.drop (bZ t+1)))=1:=by
    grind
   have lG:=aat t hs;have OD:(t.drop (bZ t+1)).length<=600:=by rw[xX];lia
   rw[<-qR] at lG OD;have iA:gE (t.drop (bZ t+1))≠0:=fun e=>by
    rw[e] at qR;exact h2 ⟨hs,.inr (.inl (by rw[<-qR];rfl))⟩
   have sM:gE (t.drop (bZ t+1))≠1:=fun e=>by
    rw[e] at qR;exact h2 ⟨hs,.inr (.inr (by rw[<-qR];rfl))⟩
   generalize gE (t.drop (bZ t+1))=d at*
   have⟨r,dQ,lU⟩:=aci (n:=if neg=ycN then -(n:Int) else n) (d:=d) (by lia) (by rw[XP];exact hg)
   refine⟨r,?_,by rw[dQ,XP];exact Ec,by rw[lU];exact OD⟩
   unfold RT;rw[dQ,lU,yI sM,<-hint,xJ]
   congr 1
   rw[zT];exact lG
  .have ht:t.take (bZ t)=t:=yq (by lia);rw[ht] at zT;have⟨r,dQ,lU⟩:=aci (n:=if neg=ycN then -(n:Int) else n) (d:=1) (by lia) (Nat.gcd_one_right _);refine⟨r,?_,by rw[dQ,XP];exact Ec,by rw[lU];decide⟩
   unfold RT;rw[dQ,lU,yK rfl,<-hint,wz,zT]
 cases s with
 | nil=>exact absurd h (by decide)
 | cons b t=>
  simp only[cK] at h
  split at h
  .rename_i hb;subst hb;exact key ycN t h
  .exact key ycO (b::t) h
namespace Nd
structure Ord(n:Nat)(l:List Int):Prop where
 len:l.length=n
 sC:∀a,a<n->0<=l.getD a 0/\l.getD a 0<n
 inj:∀a b,a<n->b<n->l.getD a 0=l.getD b 0->a=b
end Nd
namespace Nd
open Go (IntKind)
abbrev af(P:aG)(L:Lib)(f:Nat)(aw:List AV)(r:AV):Prop:=bS P L (D P L) f aw=GW r
def stS{hp:Hp}{ct id o:Nat}{v:Int}{ex:Bool}{l:List Int}(h:o<l.length):dS hp ct id o 1 [.int .i64 v] (GW (.cells ycN ycN ex 1 (l.map aa)))=GW (.av [],aY hp id (.cells ycN ycN ex 1 ((l.set o v).map aa)),ct):=by
 rw[zn (by rfl) (by simp;lia) (by rfl)]
 have:over o [AV.int .i64 v] (l.map aa)=(l.set o v).map aa:=by
  simp only[over,yx,yN,yf];rw[yaH,vn,yK (by simpa using h)]
  simp
 rw[this];rfl
def B3(h:Has P L 124 Ir)(b:Bool)(n:Int):af P L 124 [.bool b,aa n] (aa (if b=ycN then n else 0)):=by
 unfold af;rw[aF h]
 cases b with
 | true=>simp only[go_sem,ya,Ir,xS]
 | false=>simp only[go_sem,ya,Ir];rfl
def azV(h:Has P L 125 Rv){v:AV}{l:List Int}(hv:bh v l)(hl:l.length<=1000000):af P L 125 [v] (aa (cd l)):=by
 unfold af;rw[aF h];simp only[go_sem,ya,Rv,hv.len];have key:=acX (P:=P) (L:=L) (live:=[5,6,7]) (a:=Qh)
  (I:=fun k s=>∃tm ct i,s=⟨tm,[],ct,0⟩/\ai tm 5=v/\ai tm 6=aa l.length/\ai tm 7=aa (i:Nat)/\i+k=l.length/\cd (l.drop i)=cd l)
  (Q:=fun ex s=>∃tm,s=⟨tm,[],0,0⟩/\((ex=.ret/\ai tm 2=aa (cd l))\/(ex=.exit 0/\cd l=0))) ?_ l.length
 .generalize hq:D P L (.loop _ Qh) _=q;obtain⟨ex,s,rfl,tm,rfl,h2⟩:=aW hq key ⟨_,_,0,rfl,rfl,rfl,rfl,by lia,rfl⟩;rcases h2 with ⟨rfl,h2⟩ | ⟨rfl,h2⟩
  .simp only [go_sem,h2]
  .rw [h2];simp only[go_sem]
 .rintro k s ⟨tm,ct,i,rfl,h5,h6,h7,hk,hf⟩;rw[akz (by simp only[go_sem,h5,h6,h7,hv.pu])];simp only[go_sem,ya,h5,h6,h7,Qh];by_cases hi:i<l.length
  .have dP:(i:Int)<l.length:=by lia
   rw[akX hi] at hf;by_cases hz:l[i]=0
   .left
    simp only[go_sem,ya,dP,hv.a6 hi,hz];refine⟨_,k-1,rfl,by lia,_,_,i+1,rfl,?_⟩;rw[wrap64 (by lia) (by lia)];rw[yK hz] at hf;simp only[go_sem,ya];exact⟨trivial,trivial,rfl,by lia,hf⟩
   .right
    simp only[go_sem,ya,dP,hv.a6 hi,hz];rw[yI hz] at hf;refine⟨_,_,rfl,by simp,_,rfl,.inl ⟨rfl,?_⟩⟩;simp only[go_sem,hf]
  .right
   have dP:¬(i:Int)<l.length:=by lia
   simp only[go_sem,dP];refine⟨_,_,rfl,by simp,_,rfl,.inr ⟨rfl,?_⟩⟩;rw[<-hf,yZ (by lia)];rfl
end Nd
section
variable {a b p:List Nat}
def adk(i:Nat):Iq i [48,49,50,51,52,53,54,55,56,57]=(yJ 48 i&&yJ i 57):=by
 by_cases h:48<=i/\i<=57
 .have ⟨h1,h2⟩:=h;obtain⟨k,rfl⟩:∃k,i=48+k:=⟨i-48,by lia⟩;rcases (show k=0\/k=1\/k=2\/k=3\/k=4\/k=5\/k=6\/k=7\/k=8\/k=9 by lia) with rfl | rfl | rfl | rfl | rfl | rfl | rfl | rfl | rfl | rfl<;>rfl
 .have e:(yJ 48 i&&yJ i 57)=ycO:=by
   cases h1:yJ 48 i with
   | false=>rfl
   | true=>
    cases h2:yJ i 57 with
    | false=>rfl
    | true=>exact absurd ⟨yu h1,yu h2⟩ h
  rw[e];have ne:∀c,48<=c->c<=57->yp c i=ycO:=fun c h1 h2=>iG (by lia)
  simp only[Iq,ne 48 (by decide) (by decide),ne 49 (by decide) (by decide),ne 50 (by decide) (by decide),ne 51 (by decide) (by decide),ne 52 (by decide) (by decide),ne 53 (by decide) (by decide),ne 54 (by decide) (by decide),ne 55 (by decide) (by decide),ne 56 (by decide) (by decide),ne 57 (by decide) (by decide),yX]
def Ux:∀l:List Nat,mj [48,49,50,51,52,53,54,55,56,57] l=[]↔dA l=ycN
 | []=>by simp[mj,dA]
 | b::r=>by
  simp only[mj,dA,adk]
  cases hb:(yJ 48 b&&yJ b 57) with
  | true=>simp only[yC,wv];exact Ux r
  | false=>simp
def PL:∀l:List Nat,dA l.reverse=dA l
 | []=>rfl
 | b::r=>by rw[List.reverse_cons,OX,PL r];simp[dA,Bool.and_comm]
def aaw:∀l:List Nat,dA l=ycO->dA (mj [48,49,50,51,52,53,54,55,56,57] l)=ycO
 | [],h=>by simp[dA] at h
 | b::r,h=>by
  simp only[mj,adk]
  cases hb:(yJ 48 b&&yJ b 57) with
  | true=>
   simp only[dA,hb,wv] at h;exact aaw r h
  | false=>simp only[yX];exact h
def apP(p:List Nat):cN (mj [48,49,50,51,52,53,54,55,56,57] (mj [48,49,50,51,52,53,54,55,56,57] p.reverse).reverse) []=dA p:=by
 cases hd:dA p with
 | true=>
  have h1:=(Ux p.reverse).2 (by rw[PL];exact hd)
  rw[h1];rfl
 | false=>
  have h1:=aaw p.reverse (by rw[PL];exact hd)
  have h2:dA (mj [48,49,50,51,52,53,54,55,56,57] p.reverse).reverse=ycO:=by rw[PL];exact h1
  cases hq:mj [48,49,50,51,52,53,54,55,56,57] (mj [48,49,50,51,52,53,54,55,56,57] p.reverse).reverse with
  | nil=>have:=(Ux _).1 hq;rw[h2] at this;exact absurd this (by decide)
  | cons b r=>rfl
def aax:∀(t:List Nat) (k:Nat),nJ [47] t k=if bZ t<t.length then GW (k+bZ t) else none
 | [],k=>by simp[nJ,il,bZ]
 | b::r,k=>by
  by_cases hb:b=47
  .subst hb;have e:bZ (47::r)=0:=by simp[bZ]
   rw[e,yK (by simp)];rfl
  .have e:bZ (b::r)=bZ r+1:=by simp[bZ,hb]
   have hp:il [47] (b::r)=ycO:=by rw[KK];exact iG (fun e=>hb e.symm)
   rw[e,nJ,hp,yX,aax r (k+1)]
   grind
def CX(a b:List Nat):binOp .neq (.str a) (.str b)=GW (.bool (!(cN a b))):=rfl
structure Ck(P:aG)(L:Lib):Prop extends Tx P L where
 azW:L.pure 128=GW O8
 azX:L.pure 162=GW trimS
 h86:Has P L 86 fR
 F7:Has P L 124 Ir
 azY:Has P L 125 Rv
 azZ:Has P L 129 Is
def B3(h:Has P L 124 Ir)(b:Bool)(n:Int):af P L 124 [.bool b,aa n] (aa (if b=ycN then n else 0)):=Nd.B3 h b n
def ahr(h:Ck P L)(hl:p.length<=4000000000):af P L 129 [.str p] (.bool (eb p)):=by
 have e1:bS P L (D P L) 162 [.str p,.str [48,49,50,51,52,53,54,55,56,57]]=GW (.str (mj [48,49,50,51,52,53,54,55,56,57] (mj [48,49,50,51,52,53,54,55,56,57] p.reverse).reverse)):=by
  rw[j8 h.azX];show (bif Ho [48,49,50,51,52,53,54,55,56,57]&&(yP p.length 4294967281&&yP 10 4294967281) then _ else none)=_
  rw[ml (by lia)];rfl
 have e2:=apP p;unfold af;rw[aF h.azZ]
 match p,e1,e2 with
 | [],_,_=>
  simp only[go_sem,ya,Is,CX,show cN [] []=ycN from rfl,y9];rfl
 | b::r,e1,e2=>
  have hI:oJ 0 (.str (b::r))=GW (.int .u8 (b:Nat)):=rfl;have h0:cN (b::r) []=ycO:=rfl;have hd:eb (b::r)=(dA (b::r)&&(!(yp b 48)||r.isEmpty)):=rfl;rw[hd]
  cases ph:dA (b::r) with
  | false=>
   rw[ph] at e2;simp only[go_sem,ya,Is,CX,h0,xb,e1,mM,e2,xY]
  | true=>
   rw[ph] at e2;by_cases hb:b=48
   .subst hb;have e3:cN (48::r) [48]=r.isEmpty:=by
     cases r with
     | nil=>rfl
     | cons c r=>rfl
    have YK:oJ 0 (.str (48::r))=GW (.int .u8 48):=rfl;simp only[go_sem,ya,Is,CX,h0,xb,e1,mM,e2,YK,yy,y9,e3];rfl
   .have:yp b 48=ycO:=iG hb
    rw[this];simp only[go_sem,ya,Is,CX,h0,xb,e1,mM,e2,hI,show ¬((b:Nat):Int)=48 by lia,yA,xb];rfl
def az0(h:Ck P L)(s:List Nat):bS P L (D P L) 128 [.str s,.str [45]]=GW (if s.head? =GW 45 then .av [.str s.tail,.bool ycN] else .av [.str s,.bool ycO]):=by
 rw[j8 h.azW];show GW (bif il [45] s then AV.av [.str (s.drop 1),.bool ycN] else .av [.str s,.bool ycO])=_
 cases s with
 | nil=>rfl
 | cons b r=>
  by_cases hb:b=45
  .subst hb;rfl
  .have:il [45] (b::r)=ycO:=by rw[KK];exact iG (fun e=>hb e.symm)
   grind
def az1(h:Ck P L){t:List Nat}(hl:t.length<=4000000000):bS P L (D P L) 109 [.str t,.str [47]]=GW (.av [.str (t.take (bZ t)),.str (t.drop (bZ t+1)),.bool (decide (bZ t<t.length))]):=by
 rw[j8 h.XH];show (bif yP t.length 4294967281 then (match nJ [47] t 0 with | some i=>GW (AV.av [.str (t.take i),.str (t.drop (i+1)),.bool ycN]) | none=>GW (AV.av [.str t,.str [],.bool ycO])) else none)=_
 rw[ml (by lia),aax];by_cases hs:bZ t<t.length
 .grind
 .rw [yI hs,yW hs,yq (by lia),yZ (by lia)];rfl
def al0{P:aG}{L:Lib}(a b c d:VC)(s:St):D P L (.seq a (.seq b (.seq c d))) s=rN P L (D P L (.seq a (.seq b c)) s) d:=by
 have e:=EC (P:=P) (L:=L) b c d;rw[nS,nS]
 cases D P L a s with
 | none=>rfl
 | some q=>
  have⟨ex,st⟩:=q
  cases ex with
  | normal=>rw[iS,iS];exact e st
  | ret=>rfl
  | exit id=>rfl
def anD{P:aG}{L:Lib}(a b c d f:VC)(s:St):D P L (.seq a (.seq b (.seq c (.seq d f)))) s=rN P L (D P L (.seq a (.seq b (.seq c d))) s) f:=by
 have e:=al0 (P:=P) (L:=L) b c d f;rw[nS,nS]
 cases D P L a s with
 | none=>rfl
 | some q=>
  have⟨ex,st⟩:=q
  cases ex with
  | normal=>rw[iS,iS];exact e st
  | ret=>rfl
  | exit id=>rfl
def Hg(h:a=b):cN a b=ycN:=by
 subst h
 induction a with
 | nil=>rfl
 | cons x a ih=>simp[cN,ih]
def Vt(h:a≠b):cN a b=ycO:=by
 cases hb:cN a b with
 | false=>rfl
 | true=>
  exact absurd (by
   clear h;revert b
   induction a with
   | nil=>intro b hb;cases b with | nil=>rfl | cons y b=>simp[cN] at hb
   | cons x a ih=>
    intro b hb
    cases b with
    | nil=>simp[cN] at hb
    | cons y b=>
     simp only[cN,ye] at hb
     rw[yh hb.1,ih hb.2]) h
def ax4(h:Ck P L){q:List Nat}{ok found:Bool}(lp:p.length<=1000000000)(lq:q.length<=1000000000)(jW:ok=ycN->eb p=ycN/\(found=ycN->eb q=ycN)){tm:Env}(t5:ai tm 5=.str p)(t6:ai tm 6=.str q)(t7:ai tm 7=.bool found)(t8:ai tm 8=.bool ok):
  gK [.t 2] (D P L (aD (aD (aD (aD (aD fR.body))))) ⟨tm,[],0,0⟩)=GW (aa (
   if ok=ycO then 1
   else if 600<p.length\/600<q.length then 4
   else if found=ycN/\wL (gE p) (gE q)≠1 then 1
   else 0)):=by
 have w1:=B3 h.F7 (!ok) 1;have Tm:∀a b:Int,af P L 125 [.ap ycN 2 [aa a,aa b]] (aa (cd [a,b])):=fun a b=>Nd.azV h.azY (lF ycN [a,b]) (by simp)
 cases ok with
 | false=>
  have f1:=Tm 1 0;have f2:=Tm 1 4;have w2:=B3 h.F7 ycO 4;have w3:=B3 h.F7 ycN 4;simp only[xb,xS,yL,xE] at w1 w2 w3;rw[show cd [1,0]=1 by decide] at f1;rw[show cd [1,4]=1 by decide] at f2;unfold af at w1 w2 w3 f1 f2;by_cases h1:600<p.length
  .simp only [go_sem,ya,yb,yG,yk,yi,fR,aD,show ¬(1:Int)=0 by decide,xb,t5,t8,xb,w1,show (600:Int)<(p.length:Int) by lia,yy,w3,f2,yA]
   simp
  .by_cases h2:600<q.length
   .simp only [go_sem,ya,yb,yG,yk,yi,fR,aD,show ¬(1:Int)=0 by decide,xb,t5,t6,t8,xb,w1,show ¬(600:Int)<(p.length:Int) by lia,show (600:Int)<(q.length:Int) by lia,yy,yA,w3,f2]
    simp
   .simp only [go_sem,ya,yb,yG,yk,yi,fR,aD,show ¬(1:Int)=0 by decide,xb,t5,t6,t8,xb,w1,show ¬(600:Int)<(p.length:Int) by lia,show ¬(600:Int)<(q.length:Int) by lia,yA,w2,f1]
    simp
 | true=>
  have⟨hp,hq⟩:=jW rfl;have f1:=Tm 0 0;have f2:=Tm 0 4;have w2:=B3 h.F7 ycO 4;have w3:=B3 h.F7 ycN 4;have w4:=B3 h.F7 ycO 1;have w5:=B3 h.F7 ycN 1;simp only[y9,xS,yL,xE] at w1 w2 w3 w4 w5;rw[show cd [0,0]=0 by decide] at f1;rw[show cd [0,4]=4 by decide] at f2;unfold af at w1 w2 w3 w4 w5 f1 f2;rw[yI (by decide)];by_cases h1:600<p.length
  .rw [yK (.inl h1)];simp only[go_sem,ya,yb,yG,yk,yi,fR,aD,show ¬(4:Int)=0 by decide,xb,t5,t8,y9,w1,show (600:Int)<(p.length:Int) by lia,yy,w3,f2,yA]
  .by_cases h2:600<q.length
   .rw [yK (.inr h2)];simp only[go_sem,ya,yb,yG,yk,yi,fR,aD,show ¬(4:Int)=0 by decide,xb,t5,t6,t8,y9,w1,show ¬(600:Int)<(p.length:Int) by lia,show (600:Int)<(q.length:Int) by lia,yy,yA,w3,f2]
   .rw [yI (by lia)]
    cases found with
    | false=>
     rw[yI (by simp)];simp only[go_sem,ya,yb,yG,yk,yi,fR,aD,t5,t6,t7,t8,y9,w1,show ¬(600:Int)<(p.length:Int) by lia,show ¬(600:Int)<(q.length:Int) by lia,yy,yA,w2,f1]
    | true=>
     have zT:=G5 _ rfl hp;have qR:=G5 _ rfl (hq rfl);generalize gE p=n at*
     generalize gE q=d at*
     subst zT;subst qR;obtain⟨M,hM⟩:∃M:Nat,M=2400:=⟨_,rfl⟩;have bd:∀{m:Nat},(aC m).length<=600->Bd M (m:Int):=fun {m} hm=>by
      have h1:=K2 m;have h2:=K3 (aC m).length;have h3:(2:Nat)^(4*(aC m).length)<=2^M:=xe (by decide) (by lia);unfold Bd;rw[wJ];exact yR h1 (xn h2 h3)
     have⟨x,e1,hx⟩:=Nx h.toTx (z:=(n:Int)) (by rw[mJ];lia)
     have⟨y,e2,hy⟩:=Nx h.toTx (z:=(d:Int)) (by rw[mJ];lia)
     rw[mJ] at e1 e2;have kn:=bd (m:=n) (by lia);have kd:=bd (m:=d) (by lia);have⟨g,e3,hg⟩:=ahk h.toNu hx hy kn kd (by lia);have⟨e4,Yy⟩:=F3 h.toNu (z:=1) (by decide) (by decide);have kg:Bd M ((vh (n:Int) (d:Int):Nat):Int):=by
      rcases xv d with h0 | h0
      .subst h0;simpa using kn
      .exact kd.le (by have:=Nat.gcd_le_right n h0;simpa using this)
     have e5:=azJ h.toNu hg Yy (K:=M) kg (by unfold Bd;exact Nat.one_lt_two_pow (by lia)) (by lia)
     have az2:vh (n:Int) (d:Int)=wL n d:=rfl;rw[az2] at e5;obtain⟨xs,xw,rfl,zU⟩:=hx;obtain⟨ys,yw,rfl,GJ⟩:=hy;obtain⟨gs,gw,rfl,ZJ⟩:=hg;have⟨l1,u1⟩:=zU.aM;have⟨l2,u2⟩:=GJ.aM;have⟨l3,u3⟩:=ZJ.aM;by_cases gM:wL n d=1
     .rw [yI (by simp[gM])];have hs:cW (((wL n d:Nat):Int)-1)=0:=by rw[gM];rfl
      rw[hs] at e5;simp only[go_sem,ya,yb,yG,yk,yi,fR,aD,t5,t6,t7,t8,y9,w1,show ¬(600:Int)<((aC n).length:Int) by lia,show ¬(600:Int)<((aC d).length:Int) by lia,yy,yA,w2,f1,e1,e2,u1.ak,u2.ak,u3.ak,a8,cm,e3,e4,e5]
     .rw [yK ⟨rfl,gM⟩];obtain⟨c,hc,gG⟩:∃c,cW (((wL n d:Nat):Int)-1)=c/\c≠0:=⟨_,rfl,fun e=>gM (by
       unfold cW at e
       split at e
       .exact absurd e (by decide)
       .split at e
        .lia
        .exact absurd e (by decide))⟩
      rw[hc] at e5;simp only[go_sem,ya,yb,yG,yk,yi,fR,aD,xb,t5,t6,t7,t8,y9,w1,show ¬(600:Int)<((aC n).length:Int) by lia,show ¬(600:Int)<((aC d).length:Int) by lia,yy,yA,w2,f1,e1,e2,u1.ak,u2.ak,u3.ak,a8,cm,e3,e4,e5,gG,xb,w5]
def m86(h:Ck P L){s:List Nat}(hl:s.length<=1000000000):af P L 86 [.str s] (aa (cK s)):=by
 have key:∀(neg:Bool) (t:List Nat),t.length<=1000000000->bS P L (D P L) 128 [.str s,.str [45]]=GW (.av [.str t,.bool neg])->af P L 86 [.str s] (aa (B2 neg t)):=by
  intro neg t hl e0;have e1:=az1 h (t:=t) (by lia);obtain⟨k,hk⟩:∃k,k=bZ t:=⟨_,rfl⟩;have Km:k<=t.length:=by rw[hk];exact KH t
  have e2:=ahr h (p:=t.take k) (by rw[yO];lia)
  have e3:=ahr h (p:=t.drop (k+1)) (by rw[xX];lia)
  have lp:(t.take k).length=k:=by rw[yO];lia
  have lq:(t.drop (k+1)).length=t.length-k-1:=by rw[xX];lia
  unfold B2;rw[<-hk] at e1 ⊢;generalize hp:t.take k=p at*
  generalize hq:t.drop (k+1)=q at*
  obtain⟨Ed,AM⟩:∃ok:Bool,ok=(eb p&&(!neg|| !(cN p [48]))):=⟨_,rfl⟩;obtain⟨ok,jW⟩:∃ok:Bool,ok=(Ed&&(!(decide (k<t.length))||(eb q&&(!(cN q [48])&& !(cN q [49]))))):=⟨_,rfl⟩
  have Sb:(if eb p=ycO\/(neg=ycN/\p=[48]) then 1
    else if k<t.length/\(eb q=ycO\/q=[48]\/q=[49]) then 1
    else if 600<k\/600<t.length-k-1 then 4
    else if k<t.length/\wL (gE p) (gE q)≠1 then 1 else 0:Int)=(if ok=ycO then 1
    else if 600<p.length\/600<q.length then 4
    else if decide (k<t.length)=ycN/\wL (gE p) (gE q)≠1 then 1
    else 0):=by
   rw[lp,lq];have a1:(eb p=ycO\/(neg=ycN/\p=[48]))↔Ed=ycO:=by
    rw[AM];cases eb p<;>cases neg<;>simp
    by_cases e:p=[48]
    .simp [e,Hg]
    .simp [e,Vt e]
   have a2:ok=ycO↔(Ed=ycO\/(k<t.length/\(eb q=ycO\/q=[48]\/q=[49]))):=by
    rw[jW];by_cases hs:k<t.length
    .simp only [hs,yy,y9,uJ,tN];cases Ed<;>cases eb q<;>simp
     by_cases e:q=[48]
     .simp [e,Hg]
     .by_cases e':q=[49]
      .simp [e',Hg]
      .simp [e,e',Vt e,Vt e']
    .simp [hs]
   by_cases h1:Ed=ycO
   .rw [yK (a1.2 h1),yK (a2.2 (.inl h1))]
   .rw [yI (fun e=>h1 (a1.1 e))];by_cases h2:k<t.length/\(eb q=ycO\/q=[48]\/q=[49])
    .rw [yK h2,yK (a2.2 (.inr h2))]
    .rw [yI h2,yI (fun e=>(a2.1 e).elim h1 h2)];simp only[tC]
  rw[Sb];have az3:ok=ycN->eb p=ycN/\(decide (k<t.length)=ycN->eb q=ycN):=fun e=>by
   rw[jW,ye] at e;have⟨e1,e2⟩:=e;rw[AM,ye] at e1;refine⟨e1.1,fun hs=>?_⟩;rw[hs,y9,uJ,ye] at e2;exact e2.1
  have tail:∀tm,ai tm 5=.str p->ai tm 6=.str q->ai tm 7=.bool (decide (k<t.length))->ai tm 8=.bool ok->gK [.t 2] (D P L (aD (aD (aD (aD (aD fR.body))))) ⟨tm,[],0,0⟩)=_:=fun tm t5 t6 t7 t8=>
   ax4 h (by lia) (by lia) az3 t5 t6 t7 t8
  have mid:∀tm,ai tm 5=.str p->ai tm 6=.str q->ai tm 7=.bool (decide (k<t.length))->ai tm 8=.bool Ed->
    ∃cB,D P L (bC (aD (aD (aD (aD fR.body))))) ⟨tm,[],0,0⟩=GW (.normal,⟨cB,[],0,0⟩)/\ai cB 5=.str p/\ai cB 6=.str q/\ai cB 7=.bool (decide (k<t.length))/\ai cB 8=.bool ok:=fun tm t5 t6 t7 t8=>by
   unfold af at e3;by_cases hs:k<t.length
   .rw [xo hs] at t7 jW ⊢;simp only[y9,uJ] at jW
    cases Ed with
    | false=>
     rw[xY] at jW;subst jW;refine⟨_,by simp only[go_sem,ya,fR,bC,aD,t7,t8]<;>rfl,?_⟩
     simp only[go_sem,ya,t5,t6,t7,tN]
    | true=>
     rw[wv] at jW
     cases hd:eb q with
     | false=>
      rw[hd] at e3 jW;rw[xY] at jW;subst jW;refine⟨_,by simp only[go_sem,ya,fR,bC,aD,t6,t7,t8,e3]<;>rfl,?_⟩
      simp only[go_sem,ya,t5,t6,t7,tN]
     | true=>
      rw[hd] at e3 jW;rw[wv] at jW
      cases kI:cN q [48] with
      | true=>
       rw[kI,y9,xY] at jW;subst jW;refine⟨_,by simp only[go_sem,ya,fR,bC,aD,t6,t7,t8,e3,CX,kI,y9]<;>rfl,?_⟩
       simp only[go_sem,ya,t5,t6,t7,tN]
      | false=>
       rw[kI,xb,wv] at jW;subst jW;refine⟨_,by simp only[go_sem,ya,fR,bC,aD,t6,t7,t8,e3,CX,kI,xb]<;>rfl,?_⟩
       simp only[go_sem,ya,t5,t6,t7,tN]
   .rw [yW hs] at t7 jW ⊢;simp only[xb,th,ud] at jW;subst jW;refine⟨_,by simp only[go_sem,fR,bC,aD,t7]<;>rfl,?_⟩
    simp only[go_sem,ya,t5,t6,t7,t8,tN]
  have fin:∀tm,ai tm 5=.str p->ai tm 6=.str q->ai tm 7=.bool (decide (k<t.length))->ai tm 8=.bool Ed->
    D P L (.seq (bC fR.body) (.seq (bC (aD fR.body)) (.seq (bC (aD (aD fR.body))) (bC (aD (aD (aD fR.body))))))) ⟨[(0,.str s)],[],0,0⟩=GW (.normal,⟨tm,[],0,0⟩)->af P L 86 [.str s] _:=fun tm t5 t6 t7 t8 e=>by
   have⟨cB,e',f5,f6,f7,f8⟩:=mid tm t5 t6 t7 t8;unfold af;rw[aF h.h86];show gK [.t 2] (D P L (.seq (bC fR.body) (.seq (bC (aD fR.body)) (.seq (bC (aD (aD fR.body))) (.seq (bC (aD (aD (aD fR.body)))) (.seq (bC (aD (aD (aD (aD fR.body))))) (aD (aD (aD (aD (aD fR.body)))))))))) ⟨[(0,.str s)],[],0,0⟩)=_
   rw[anD,e,iS,nS,e',iS];exact tail cB f5 f6 f7 f8
  unfold af at e2
  cases hd:eb p with
  | false=>
   rw[hd] at e2 AM;rw[xY] at AM;subst AM;refine fin _ ?_ ?_ ?_ ?_ (by simp only[go_sem,ya,fR,bC,aD,e0,e1,e2]<;>rfl)<;>simp only[go_sem,ya]
  | true=>
   rw[hd] at e2 AM
   cases neg with
   | false=>
    simp only[xb,th] at AM;subst AM;refine fin _ ?_ ?_ ?_ ?_ (by simp only[go_sem,ya,fR,bC,aD,e0,e1,e2,xb]<;>rfl)<;>simp only[go_sem,ya]
   | true=>
    simp only[y9,uJ] at AM;subst AM;refine fin _ ?_ ?_ ?_ ?_ (by simp only[go_sem,ya,fR,bC,aD,e0,e1,e2,y9,CX]<;>rfl)<;>simp only[go_sem,ya]
 unfold cK;have e0:=az0 h s
 cases s with
 | nil=>exact key ycO [] (by simp) e0
 | cons b r=>
  by_cases hb:b=45
  .subst hb;exact key ycN r (by simp at hl;lia) e0
  .simp only [hb,xE];rw[yI (by simpa using hb)] at e0;exact key ycO (b::r) hl e0
end
section
variable {v:AV}{z:Int}{K:Nat}
def LN(z:Int):Bool:=decide (600<(aC z.natAbs).length)
def LG(r:Rat):Bool:=LN r.num||LN (r.den:Int)
def al1{m B k:Nat}(hB:B<=3*k)(hk:0<k)(h:m<2^B):(aC m).length<=k:=by
 obtain⟨j,rfl⟩:∃j,k=j+1:=⟨k-1,by lia⟩;refine Ae (yR h (xn (xe (by decide) hB) ?_));rw[yan];exact uf (by decide) _
def Vu:∀f n:Nat,eY f n<=f
 | 0,_=>yz _
 | f+1,n=>by
  unfold eY
  cases yp n 0 with
  | true=>exact tk _
  | false=>have:=Vu f (n/2);simp only[yX];lia
def avn{P:aG}{L:Lib}{f:cw}(h:L.pure 175=GW Lg){x:Nat}(hx:x<2^64):bS P L f 175 [uc x]=GW (aa (eY 64 x:Nat)):=by
 rw[j8 h];show (bif yP x (2^64) then _ else none)=_
 rw[ml hx];rfl
def arT{V n top low:Nat}(hn:0<n)(h0:0<top)(ht:top<2^64)(hV:V=low+(2^64)^(n-1)*top)(hl:low<(2^64)^(n-1)):V<2^(64*(n-1)+eY 64 top):=by
 have⟨l1,l2,l3⟩:=UZ h0 ht;have hle:=Vu 64 top;have h1:top<2^eY 64 top:=by
  have e:(2^64:Nat)=2^eY 64 top*2^(64-eY 64 top):=by rw[<-xL,show eY 64 top+(64-eY 64 top)=64 by lia]
  rw[e] at l3;exact Nat.lt_of_mul_lt_mul_right l3
 have h3:=xa ((2^64)^(n-1)) (show top+1<=2^eY 64 top from h1);rw[xL,yan]
 grind
def apQ(K:Nat):2^K<=(2^64)^(K/64+1):=by
 rw[show (2^64:Nat)=2^64 from rfl,<-yan];exact xe (by decide) (by lia)
def ax5(h:Tx P L)(hv:cJ v z)(hz:Bd K z)(hK:K<=4000000000):∃B:Nat,af P L 172 [v] (aa B)/\z.natAbs<2^B/\B<=K+64:=by
 obtain⟨s,w,rfl,hn⟩:=hv;have⟨l,u⟩:=hn.aM;have⟨r,e1,hr⟩:=B0 h.toNu hn;have⟨ws,hw,g,nz',hb⟩:=hr;have hl:ws.length<=K/64+1:=p9 nz' hb (yR hz (apQ K));unfold af at e1 ⊢;by_cases h0:ws=[]
 .subst h0;have nv:z.natAbs=0:=by rw[<-hb];rfl
  refine⟨0,?_,by rw[nv];decide,by lia⟩
  rw[aF h.ahm];simp only[go_sem,ya,yb,RD,aR,cA,cm,u.pu,u.ak,u.one,e1,hw.len,yN,show ((0:Nat):Int)=0 from rfl,yy]
 .have hp:0<ws.length:=uX.2 h0;have rP:=PH nz' h0;have GA:=iI (show 0<2^64 by decide) g (ws.length-1);have ei:=hw.a6 (i:=ws.length-1) (by lia);have fo:=kh (b:=2^64) (l:=ws) (ws.length-1);have Ny:=nR (CW g (ws.length-1));rw[yO,xA (by lia)] at Ny;rw[show ws.length-1+1=ws.length by lia,yq (yz _)] at fo;generalize ws.getD (ws.length-1) 0=top at*
  have e2:=avn (P:=P) (f:=D P L) h.azP GA;have hle:=Vu 64 top;have af3:=arT hp (Nat.pos_of_ne_zero rP) GA fo Ny;rw[hb] at af3;refine⟨64*(ws.length-1)+eY 64 top,?_,af3,by lia⟩;rw[aF h.ahm]
  simp only[go_sem,ya,yb,RD,aR,cA,cm,u.pu,u.ak,u.one,e1,hw.len,show ¬(ws.length:Int)=0 by lia,show (ws.length:Int)-1=((ws.length-1:Nat):Int) by lia,wrapN (n:=ws.length-1) (by lia),show (64:Int)*((ws.length-1:Nat):Int)=((64*(ws.length-1):Nat):Int) by lia,wrapN (n:=64*(ws.length-1)) (by lia),ei,e2,show ((64*(ws.length-1):Nat):Int)+((eY 64 top:Nat):Int)=((64*(ws.length-1)+eY 64 top:Nat):Int) from rfl,wrapN (n:=64*(ws.length-1)+eY 64 top) (by lia)]
def az4(h:Tx P L)(hv:cJ v z)(hz:Bd K z)(hK:K<=4000000000):∃B:Nat,af P L 172 [v] (aa B)/\z.natAbs<2^B/\B<=300000000000:=by
 have⟨B,h1,h2,h3⟩:=ax5 h hv hz hK;exact⟨B,h1,h2,by lia⟩
def anE(z:Int):(if il [45] (aV z)=ycN then (aV z).drop 1 else aV z)=aC z.natAbs:=by
 by_cases h:z<0
 .rw [oz h];rfl
 .obtain ⟨m,rfl⟩:∃m:Nat,z=m:=⟨z.toNat,by lia⟩;rw[mJ];have⟨b,r,hb,h1,_⟩:=G4 m;rw[wJ,hb,Uw h1];rfl
def ahs(h:Tx P L)(hv:cJ v z)(hz:Bd K z)(hK:K<=4000000000):af P L 151 [v] (.bool (LN z)):=by
 have⟨B,e1,hB,hBb⟩:=az4 h hv hz hK;have e2:=ZB h hv hz hK;obtain⟨s,w,rfl,hn⟩:=hv;have⟨l,u⟩:=hn.aM;have e3:bS P L (D P L) 153 [.str (aV z),.str [45]]=GW (.str (aC z.natAbs)):=by
  rw[j8 h.XF,<-anE];show GW (AV.str (bif il [45] (aV z) then (aV z).drop 1 else aV z))=_
  cases il [45] (aV z)<;>rfl
 unfold af at e1 e2 ⊢;rw[aF h.azQ];unfold LN;by_cases h1:1800<B
 .simp only [go_sem,ya,yb,Rz,aR,cA,cm,u.pu,u.ak,u.one,e1,show (1800:Int)<(B:Int) by lia,yy,e2,e3];by_cases h2:600<(aC z.natAbs).length
  .rw [xo h2,xo (by lia)]
  .rw [yW h2,yW (by lia)]
 .have h2:=al1 (k:=600) (by lia) (by decide) hB;rw[yW (by lia)];simp only[go_sem,ya,yb,Rz,aR,cA,cm,u.pu,u.ak,u.one,e1,show ¬(1800:Int)<(B:Int) by lia,yA]
def az5(h:Tx P L){a:Rat}(hv:bE v a)(ka:Hq K a)(hK:K<=4000000000):af P L 107 [v] (.bool (LG a)):=by
 obtain⟨s1,w1,s2,w2,rfl,h1,h2⟩:=hv;have e1:=ahs h ⟨s1,w1,rfl,h1⟩ ka.1 hK;have e2:=ahs h ⟨s2,w2,rfl,h2⟩ ka.2 hK;have⟨l1,u1⟩:=h1.aM;have⟨l2,u2⟩:=h2.aM;unfold af at e1 e2 ⊢;rw[aF h.azR];unfold LG
 cases hb:LN a.num with
 | true=>
  rw[hb] at e1;simp only[go_sem,ya,yb,Ro,aR,bH,yf,cA,cm,u1.pu,u1.ak,u1.one,u2.pu,u2.one,e1];rfl
 | false=>
  rw[hb] at e1;simp only[go_sem,ya,yb,Ro,aR,bH,yf,show vW 2 [aa s1,w1,aa s2,w2]=[aa s2,w2] from rfl,cA,cm,u1.pu,u1.ak,u1.one,u2.pu,u2.ak,u2.one,e1,e2];rfl
end
def anF(p s:Nat):p*(s%1000000000)+p*1000000000*(s/1000000000)=p*s:=by
 rw[xm,<-xK,uk]
def KS{l:List Int}{i:Nat}(h:l.length<=i):l.getD i 0=0:=by simp_all
def apR{a b out:List Int}{i c:Nat}{x y:Int}(hx:x=a.getD i 0)(hy:y=b.getD i 0)(h1:0<=x)(h2:0<=y)(hl:out.length=i)(hv:dv out+1000000000^i*c=dv (a.take i)+dv (b.take i)):
  dv (out++[(((x.toNat+y.toNat+c)%1000000000:Nat):Int)])+1000000000^(i+1)*((x.toNat+y.toNat+c)/1000000000)=dv (a.take (i+1))+dv (b.take (i+1)):=by
 rw[rn,rn,nE,hl,<-hx,<-hy];simp only[dv,wa,xI,xd,xt]
 have:=anF (1000000000^i) (x.toNat+y.toNat+c)
 grind
def avo(oP:Has P L 302 AG){v w:AV}{a b:List Int}(hv:bh v a)(hw:bh w b)(ha:dg a)(hb:dg b){N:Nat}(la:a.length<=N)(lb:b.length<=N)(lN:N<=20000000000):
  bP P L [0,1,5,6,7] rH (fun k s=>∃(i c:Nat) (out:List Int),2*(N-i)+c=k/\out.length=i/\c<=1/\dg out/\dv out+1000000000^i*c=dv (a.take i)+dv (b.take i)/\i<=N+1/\(i<=N\/c=0)/\
    ((i=0/\s=⟨[(0,v),(1,w),(5,.ab),(6,aa c),(7,aa i)],[],0,0⟩)\/
    (0<i/\s=⟨[(0,v),(1,w),(5,.aq 0 0 i),(6,aa c),(7,aa i)],[(0,.cells ycN ycN ycO 1 (out.map aa))],1,0⟩))) (fun ex s'=>∃tm out,ex=.exit 0/\dg out/\dv out=dv a+dv b/\out.length<=N+1/\((out=[]/\ai tm 5=.ab/\s'=⟨tm,[],0,0⟩)\/(0<out.length/\ai tm 5=.aq 0 0 out.length/\s'=⟨tm,[(0,.cells ycN ycN ycO 1 (out.map aa))],1,0⟩))):=by
 apply bQ;rintro k s ⟨i,c,out,hk,hlen,hc,ph,aO,hi,I4,hs⟩;have e1:=Xp oP hv i;have e2:=Xp oP hw i;unfold af at e1 e2;have ga:=iT ha i;have gb:=iT hb i;by_cases A5:i<a.length\/i<b.length\/0<c
 .left
  obtain⟨x,hx⟩:∃x,x=a.getD i 0:=⟨_,rfl⟩;obtain⟨y,hy⟩:∃y,y=b.getD i 0:=⟨_,rfl⟩;rw[<-hx] at e1 ga;rw[<-hy] at e2 gb;have mo:=apR (c:=c) hx hy ga.1 gb.1 hlen aO;obtain⟨s0,n5⟩:∃s0,s0=x.toNat+y.toNat+c:=⟨_,rfl⟩;rw[<-n5] at mo;have zy:x+y+(c:Int)=(s0:Int):=by lia
  have hs9:s0<2000000000:=by lia
  have hr:((s0:Nat):Int).tmod 1000000000=((s0%1000000000:Nat):Int):=by rw[xH (by lia)];rfl
  have hq:((s0:Nat):Int).tdiv 1000000000=((s0/1000000000:Nat):Int):=by rw[xR (by lia)];rfl
  have sL:s0/1000000000<=1:=by lia
  have ax6:2*(N-(i+1))+s0/1000000000<k:=by
   by_cases hm:i<N
   .lia
   .have:c=1:=by lia
    have Cm:x=0:=by rw[hx];exact KS (by lia)
    have lj:y=0:=by rw[hy];exact KS (by lia)
    subst Cm;subst lj
    have:s0=1:=by rw[n5,this];rfl
    subst this
    lia
  have zA:dg (out++[((s0%1000000000:Nat):Int)]):=iF.2 ⟨ph,me.2 (by lia)⟩;have WD:(out++[((s0%1000000000:Nat):Int)]).length=i+1:=by simp[hlen]
  have az6:i+1<=N\/s0/1000000000=0:=by
   by_cases hm:i<N
   .exact .inl hm
   .right
    have:c=1:=by lia
    have Cm:x=0:=by rw[hx];exact KS (by lia)
    have lj:y=0:=by rw[hy];exact KS (by lia)
    subst Cm;subst lj
    have:s0=1:=by rw[n5,this];rfl
    subst this;rfl
  have fin:∃s',D P L rH s=GW (.normal,s')/\bq [0,1,5,6,7] s'=⟨[(0,v),(1,w),(5,.aq 0 0 (i+1)),(6,aa (s0/1000000000:Nat)),(7,aa (i+1:Nat))],[(0,.cells ycN ycN ycO 1 ((out++[((s0%1000000000:Nat):Int)]).map aa))],1,0⟩:=by
   have three:((i:Int)<a.length)\/(¬(i:Int)<a.length/\(i:Int)<b.length)\/(¬(i:Int)<a.length/\¬(i:Int)<b.length/\(0:Int)<c):=by lia
   rcases three with t1 | ⟨t1,t2⟩ | ⟨t1,t2,t3⟩
   .rcases hs with ⟨h0,rfl⟩ | ⟨h0,rfl⟩
    .subst h0;have jM:out=[]:=yt hlen;subst jM
     simp only[go_sem,ya,yb,xg,yG,yk,yi,rH,hv.len,hv.ak,hw.ak,t1,e1,e2,wrap64 (n:=x+y) (by lia) (by lia),zy,wrap64 (n:=(s0:Int)) (by lia) (by lia),fF _ _ _ (show (1000000000:Int)≠0 by decide),dl _ _ _ (show (1000000000:Int)≠0 by decide),hr,hq,wrap64 (n:=((s0/1000000000:Nat):Int)) (by lia) (by lia),eO];refine⟨_,rfl,?_⟩;rw[wrap64 (by lia) (by lia)];simp only[go_sem,ya,yb,ae,an hv.pu,an hw.pu]<;>rfl
    .simp only [go_sem,ya,yb,yk,yi,rH,hv.len,hv.ak,hw.ak,t1,e1,e2,wrap64 (n:=x+y) (by lia) (by lia),zy,wrap64 (n:=(s0:Int)) (by lia) (by lia),fF _ _ _ (show (1000000000:Int)≠0 by decide),hr]
     rw[dK (ex:=ycO) (pu:=ycN) (cs:=out.map aa) rfl (by rw[yv,hlen,yi]) (by lia) (by lia) (by decide) rfl]
     simp only[go_sem,ya,yb,dl _ _ _ (show (1000000000:Int)≠0 by decide),hq,wrap64 (n:=((s0/1000000000:Nat):Int)) (by lia) (by lia)];refine⟨_,rfl,?_⟩;rw[wrap64 (by lia) (by lia),xu];simp only[go_sem,ya,yb,ae,an hv.pu,an hw.pu]<;>rfl
   .rcases hs with ⟨h0,rfl⟩ | ⟨h0,rfl⟩
    .subst h0;have jM:out=[]:=yt hlen;subst jM
     simp only[go_sem,ya,yb,xg,yG,yk,yi,rH,hv.len,hv.ak,hw.len,hw.ak,t1,t2,e1,e2,wrap64 (n:=x+y) (by lia) (by lia),zy,wrap64 (n:=(s0:Int)) (by lia) (by lia),fF _ _ _ (show (1000000000:Int)≠0 by decide),dl _ _ _ (show (1000000000:Int)≠0 by decide),hr,hq,wrap64 (n:=((s0/1000000000:Nat):Int)) (by lia) (by lia),eO];refine⟨_,rfl,?_⟩;rw[wrap64 (by lia) (by lia)];simp only[go_sem,ya,yb,ae,an hv.pu,an hw.pu]<;>rfl
    .simp only [go_sem,ya,yb,yk,yi,rH,hv.len,hv.ak,hw.len,hw.ak,t1,t2,e1,e2,wrap64 (n:=x+y) (by lia) (by lia),zy,wrap64 (n:=(s0:Int)) (by lia) (by lia),fF _ _ _ (show (1000000000:Int)≠0 by decide),hr]
     rw[dK (ex:=ycO) (pu:=ycN) (cs:=out.map aa) rfl (by rw[yv,hlen,yi]) (by lia) (by lia) (by decide) rfl]
     simp only[go_sem,ya,yb,dl _ _ _ (show (1000000000:Int)≠0 by decide),hq,wrap64 (n:=((s0/1000000000:Nat):Int)) (by lia) (by lia)];refine⟨_,rfl,?_⟩;rw[wrap64 (by lia) (by lia),xu];simp only[go_sem,ya,yb,ae,an hv.pu,an hw.pu]<;>rfl
   .rcases hs with ⟨h0,rfl⟩ | ⟨h0,rfl⟩
    .subst h0;have jM:out=[]:=yt hlen;subst jM
     simp only[go_sem,ya,yb,xg,yG,yk,yi,rH,hv.len,hv.ak,hw.len,hw.ak,t1,t2,t3,e1,e2,wrap64 (n:=x+y) (by lia) (by lia),zy,wrap64 (n:=(s0:Int)) (by lia) (by lia),fF _ _ _ (show (1000000000:Int)≠0 by decide),dl _ _ _ (show (1000000000:Int)≠0 by decide),hr,hq,wrap64 (n:=((s0/1000000000:Nat):Int)) (by lia) (by lia),eO];refine⟨_,rfl,?_⟩;rw[wrap64 (by lia) (by lia)];simp only[go_sem,ya,yb,ae,an hv.pu,an hw.pu]<;>rfl
    .simp only [go_sem,ya,yb,yk,yi,rH,hv.len,hv.ak,hw.len,hw.ak,t1,t2,t3,e1,e2,wrap64 (n:=x+y) (by lia) (by lia),zy,wrap64 (n:=(s0:Int)) (by lia) (by lia),fF _ _ _ (show (1000000000:Int)≠0 by decide),hr]
     rw[dK (ex:=ycO) (pu:=ycN) (cs:=out.map aa) rfl (by rw[yv,hlen,yi]) (by lia) (by lia) (by decide) rfl]
     simp only[go_sem,ya,yb,dl _ _ _ (show (1000000000:Int)≠0 by decide),hq,wrap64 (n:=((s0/1000000000:Nat):Int)) (by lia) (by lia)];refine⟨_,rfl,?_⟩;rw[wrap64 (by lia) (by lia),xu];simp only[go_sem,ya,yb,ae,an hv.pu,an hw.pu]<;>rfl
  have⟨s',f1,f2⟩:=fin;exact⟨s',_,f1,ax6,i+1,s0/1000000000,_,rfl,WD,sL,zA,mo,by lia,az6,.inr ⟨by lia,f2⟩⟩
 .right
  have gG:c=0:=by lia
  subst gG;rw[xI,xd,yq (by lia),yq (by lia)] at aO;rcases hs with ⟨h0,rfl⟩ | ⟨h0,rfl⟩
  .simp only [go_sem,ya,rH,hv.len,hw.len,show ¬(i:Int)<a.length by lia,show ¬(i:Int)<b.length by lia,show ¬(0:Int)<((0:Nat):Int) by lia];exact⟨_,_,rfl,by simp,_,out,rfl,ph,aO,by lia,.inl ⟨yt (by lia),rfl,rfl⟩⟩
  .simp only [go_sem,ya,rH,hv.len,hw.len,show ¬(i:Int)<a.length by lia,show ¬(i:Int)<b.length by lia,show ¬(0:Int)<((0:Nat):Int) by lia];exact⟨_,_,rfl,by simp,_,out,rfl,ph,aO,by lia,.inr ⟨by lia,by rw[hlen];simp only[go_sem,ya],rfl⟩⟩
def az7(h:Has P L 295 M7)(oP:Has P L 302 AG){v w:AV}{a b:List Int}(hv:bh v a)(hw:bh w b)(ha:dg a)(hb:dg b)(la:a.length<=20000000000)(lb:b.length<=20000000000):
  ∃r out,af P L 295 [v,w] r/\bh (shut r) out/\dg out/\dv out=dv a+dv b/\out.length<=max a.length b.length+1:=by
 have jL:∃out,af P L 295 [v,w] (if out=[] then .ab else .cL ycO 1 out.length (out.map aa))/\dg out/\dv out=dv a+dv b/\out.length<=max a.length b.length+1:=by
  unfold af;rw[aF h];simp only[go_sem,M7];generalize hq:D P L (.loop _ rH) _=q;obtain⟨ex,s,rfl,tm,out,rfl,hd,aO,hl,hs⟩:=aW hq (avo (P:=P) (L:=L) oP hv hw ha hb (N:=max a.length b.length) (by lia) (by lia) (by lia) (2*(max a.length b.length))) ⟨0,0,[],by lia,rfl,by lia,rfl,by simp[dv],by lia,.inr rfl,.inl ⟨rfl,by simp only[go_sem,ya,ae,an hv.pu,an hw.pu]<;>rfl⟩⟩
  refine⟨out,?_,hd,aO,hl⟩;rcases hs with ⟨h0,h5,rfl⟩ | ⟨h0,h5,rfl⟩
  .rw [yK h0];simp only[go_sem,ae,h5]
  .rw [yI (by intro e;subst e;simp at h0)];simp only[go_sem,yb,ae,h5];exact Ez (CO _ _ _) (by simp) (by decide)
 have⟨out,g1,g2,g3,g4⟩:=jL;refine⟨_,out,g1,?_,g2,g3,g4⟩
 split
 .rename_i e;subst e;exact q8
 .exact lF ycO out
def XQ(h:Has P L 296 AF){v w:AV}{a b:List Int}(hv:bh v a)(hw:bh w b)(ha:dg a)(hb:dg b)(na:nz a)(nb:nz b)(la:a.length<=20000000000)(lb:b.length<=20000000000):
  af P L 296 [v,w] (aa (dZ (dv a) (dv b))):=by
 unfold af;rw[aF h];by_cases hlen:a.length=b.length
 .have key:=fk P L [0,1,5] EY
   (fun k st=>∃j:Nat,st=⟨[(0,v),(1,w),(5,aa ((j:Int)-1))],[],0,0⟩/\j<=a.length/\j=k/\a.drop j=b.drop j)
   (fun ex st=>∃tm ct,st=⟨tm,[],ct,0⟩/\((ex=.ret/\ai tm 4=aa (dZ (dv a) (dv b)))\/(ex=.exit 0/\a=b))) ?_
  .simp only [go_sem,ya,AF,hv.len,hw.len,show (a.length:Int)=b.length by lia];generalize hq:D P L (.loop _ EY) _=q;obtain⟨ex,st,rfl,tm,ct,rfl,h2⟩:=aW hq (key a.length) ⟨a.length,by
    rw[wrap64 (by lia) (by lia)];rw[hlen]
    simp only[go_sem,ya,ae,an hv.pu,an hw.pu]<;>rfl,yz _,rfl,by rw[yZ (yz _),yZ (by lia)]⟩
   rcases h2 with ⟨rfl,h2⟩ | ⟨rfl,h2⟩
   .simp only [go_sem,h2]
   .simp only [go_sem,ae];subst h2;simp[dZ]
  .rintro k st ⟨j,rfl,hj,rfl,he⟩
   cases j with
   | zero=>
    right
    simp only[go_sem,ya,EY,show ¬(0:Int)<=((0:Nat):Int)-1 by lia];exact⟨_,_,rfl,by simp,_,_,rfl,.inr ⟨rfl,by simpa using he⟩⟩
   | succ i=>
    have h1:i<a.length:=by lia
    have h2:i<b.length:=by lia
    have DU:=ad1 ha hb h1 h2 he;have aH:=ad1 hb ha h2 h1 he.symm;by_cases c1:a[i]<b[i]
    .right
     simp only[go_sem,ya,EY,show ((i+1:Nat):Int)-1=(i:Int) by lia,show (0:Int)<=(i:Int) by lia,hv.a6 h1,hw.a6 h2,c1];refine⟨_,_,rfl,by simp,_,_,rfl,.inl ⟨rfl,?_⟩⟩;simp only[go_sem];unfold dZ;rw[yK (DU c1)]
    .by_cases c2:b[i]<a[i]
     .right
      simp only[go_sem,ya,EY,show ((i+1:Nat):Int)-1=(i:Int) by lia,show (0:Int)<=(i:Int) by lia,hv.a6 h1,hw.a6 h2,c1,c2];refine⟨_,_,rfl,by simp,_,_,rfl,.inl ⟨rfl,?_⟩⟩;simp only[go_sem];unfold dZ;rw[yI (by lia),yK (by lia)]
     .left
      simp only[go_sem,ya,EY,show ((i+1:Nat):Int)-1=(i:Int) by lia,show (0:Int)<=(i:Int) by lia,hv.a6 h1,hw.a6 h2,c1,c2];refine⟨_,i,rfl,by lia,i,?_,by lia,rfl,?_⟩
      .rw [wrap64 (by lia) (by lia)];simp only[go_sem,ya,ae,an hv.pu,an hw.pu]<;>rfl
      .rw [yT h1,yT h2,he,show a[i]=b[i] by lia]
 .by_cases c1:a.length<b.length
  .have:=VH ha nb hb c1
   simp only[go_sem,ya,AF,hv.len,hw.len,show ¬(a.length:Int)=b.length by lia,show (a.length:Int)<b.length by lia];unfold dZ;rw[yK this]
  .have:=VH hb na ha (show b.length<a.length by lia)
   simp only[go_sem,ya,AF,hv.len,hw.len,show ¬(a.length:Int)=b.length by lia,show ¬(a.length:Int)<b.length by lia];unfold dZ;rw[yI (by lia),yK this]
def apS{a b out:List Int}{i c:Nat}{x y z:Int}{c':Nat}(hx:x=a.getD i 0)(hy:y=b.getD i 0)(h1:0<=x)(h2:0<=y)(h3:0<=z)(hz:z=x-y-c+1000000000*c')(hl:out.length=i)(hv:dv out+dv (b.take i)=dv (a.take i)+1000000000^i*c):
  dv (out++[z])+dv (b.take (i+1))=dv (a.take (i+1))+1000000000^(i+1)*c':=by
 rw[rn,rn,nE,hl,<-hx,<-hy];simp only[dv,xI,xd,xt];have e:z.toNat+y.toNat+c=x.toNat+1000000000*c':=by lia
 grind
def avp(oP:Has P L 302 AG){v w:AV}{a b:List Int}(hv:bh v a)(hw:bh w b)(ha:dg a)(hb:dg b)(la:a.length<=20000000000)(hle:dv b<=dv a)(nB:b.length<=a.length):
  bP P L [0,1,5,6,7] An (fun k s=>∃(i c:Nat) (out:List Int),i+k=a.length/\out.length=i/\c<=1/\dg out/\dv out+dv (b.take i)=dv (a.take i)+1000000000^i*c/\
    ((i=0/\s=⟨[(0,v),(1,w),(5,.ab),(6,aa c),(7,aa i)],[],0,0⟩)\/
    (0<i/\s=⟨[(0,v),(1,w),(5,.aq 0 0 i),(6,aa c),(7,aa i)],[(0,.cells ycN ycN ycO 1 (out.map aa))],1,0⟩))) (fun ex s'=>∃tm out,ex=.exit 0/\dg out/\dv out+dv b=dv a/\out.length<=20000000000/\((out=[]/\ai tm 5=.ab/\s'=⟨tm,[],0,0⟩)\/(0<out.length/\ai tm 5=.aq 0 0 out.length/\s'=⟨tm,[(0,.cells ycN ycN ycO 1 (out.map aa))],1,0⟩))):=by
 apply bQ;rintro k s ⟨i,c,out,hk,hlen,hc,ph,aO,hs⟩;have e2:=Xp oP hw i;unfold af at e2;have ga:=iT ha i;have gb:=iT hb i;by_cases A5:i<a.length
 .left
  obtain⟨x,hx⟩:∃x,x=a.getD i 0:=⟨_,rfl⟩;obtain⟨y,hy⟩:∃y,y=b.getD i 0:=⟨_,rfl⟩;have zU:a[i]=x:=by rw[hx];simp[yU,xf A5]
  have e1:=hv.a6 A5;rw[zU] at e1;rw[<-hx] at ga;rw[<-hy] at e2 gb;obtain⟨z,c',hz,sL,nv,ns,FF⟩:∃(z:Int) (c':Nat),z=x-y-c+1000000000*c'/\c'<=1/\0<=z/\z<1000000000/\((x-y-c<0/\c'=1)\/(¬x-y-c<0/\c'=0)):=by
   by_cases h:x-y-c<0
   .exact ⟨x-y-c+1000000000,1,by lia,by lia,by lia,by lia,.inl ⟨h,rfl⟩⟩
   .exact ⟨x-y-c,0,by lia,by lia,by lia,by lia,.inr ⟨h,rfl⟩⟩
  have mo:=apS hx hy ga.1 gb.1 nv hz hlen aO;have zA:dg (out++[z]):=iF.2 ⟨ph,me.2 ⟨nv,ns⟩⟩;have WD:(out++[z]).length=i+1:=by simp[hlen]
  have fin:∃s',D P L An s=GW (.normal,s')/\bq [0,1,5,6,7] s'=⟨[(0,v),(1,w),(5,.aq 0 0 (i+1)),(6,aa c'),(7,aa (i+1:Nat))],[(0,.cells ycN ycN ycO 1 ((out++[z]).map aa))],1,0⟩:=by
   rcases FF with ⟨gg,rfl⟩ | ⟨gg,rfl⟩
   .have ej:x-y-c+1000000000=z:=by lia
    rcases hs with ⟨h0,rfl⟩ | ⟨h0,rfl⟩
    .subst h0;have jM:out=[]:=yt hlen;subst jM
     simp only[go_sem,ya,yb,xg,yG,yk,yi,An,hv.len,hw.ak,show ((0:Nat):Int)<a.length by lia,e1,e2,wrap64 (n:=x-y) (by lia) (by lia),wrap64 (n:=x-y-(c:Int)) (by lia) (by lia),gg,ej,wrap64 (n:=z) (by lia) (by lia),eO];refine⟨_,rfl,?_⟩;rw[wrap64 (by lia) (by lia)];simp only[go_sem,ya,yb,ae,an hv.pu,an hw.pu]<;>rfl
    .simp only [go_sem,ya,yb,yk,yi,An,hv.len,hw.ak,show (i:Int)<a.length by lia,e1,e2,wrap64 (n:=x-y) (by lia) (by lia),wrap64 (n:=x-y-(c:Int)) (by lia) (by lia),gg,ej,wrap64 (n:=z) (by lia) (by lia)]
     rw[dK (ex:=ycO) (pu:=ycN) (cs:=out.map aa) rfl (by rw[yv,hlen,yi]) (by lia) (by lia) (by decide) rfl];simp only[go_sem,ya,yb];refine⟨_,rfl,?_⟩;rw[wrap64 (by lia) (by lia),xu];simp only[go_sem,ya,yb,ae,an hv.pu,an hw.pu]<;>rfl
   .have ej:x-y-c=z:=by lia
    have gg:¬z<0:=by lia
    rcases hs with ⟨h0,rfl⟩ | ⟨h0,rfl⟩
    .subst h0;have jM:out=[]:=yt hlen;subst jM
     simp only[go_sem,ya,yb,xg,yG,yk,yi,An,hv.len,hw.ak,show ((0:Nat):Int)<a.length by lia,e1,e2,wrap64 (n:=x-y) (by lia) (by lia),ej,wrap64 (n:=z) (by lia) (by lia),gg,eO];refine⟨_,rfl,?_⟩;rw[wrap64 (by lia) (by lia)];simp only[go_sem,ya,yb,ae,an hv.pu,an hw.pu]<;>rfl
    .simp only [go_sem,ya,yb,yk,yi,An,hv.len,hw.ak,show (i:Int)<a.length by lia,e1,e2,wrap64 (n:=x-y) (by lia) (by lia),ej,wrap64 (n:=z) (by lia) (by lia),gg]
     rw[dK (ex:=ycO) (pu:=ycN) (cs:=out.map aa) rfl (by rw[yv,hlen,yi]) (by lia) (by lia) (by decide) rfl];simp only[go_sem,ya,yb];refine⟨_,rfl,?_⟩;rw[wrap64 (by lia) (by lia),xu];simp only[go_sem,ya,yb,ae,an hv.pu,an hw.pu]<;>rfl
  have⟨s',f1,f2⟩:=fin;exact⟨s',k-1,f1,by lia,i+1,c',_,by lia,WD,sL,zA,mo,.inr ⟨by lia,f2⟩⟩
 .right
  have af4:dv out+dv b=dv a:=by
   rw[yq (by lia),yq (by lia)] at aO;have aH:=kR ph;rw[hlen] at aH;rcases (show c=0\/c=1 by lia) with rfl | rfl
   .lia
   .lia
  rcases hs with ⟨h0,rfl⟩ | ⟨h0,rfl⟩
  .simp only [go_sem,ya,An,hv.len,show ¬(i:Int)<a.length by lia];exact⟨_,_,rfl,by simp,_,out,rfl,ph,af4,by lia,.inl ⟨yt (by lia),rfl,rfl⟩⟩
  .simp only [go_sem,ya,An,hv.len,show ¬(i:Int)<a.length by lia];exact⟨_,_,rfl,by simp,_,out,rfl,ph,af4,by lia,.inr ⟨by lia,by rw[hlen];simp only[go_sem,ya],rfl⟩⟩
def aht(h:Has P L 297 M8)(oP:Has P L 302 AG)(cR:Has P L 300 nc){v w:AV}{a b:List Int}(hv:bh v a)(hw:bh w b)(ha:dg a)(hb:dg b)(na:nz a)(nb:nz b)(la:a.length<=20000000000)(hle:dv b<=dv a):
  ∃r out,af P L 297 [v,w] r/\bh r out/\shut r=r/\dg out/\nz out/\dv out+dv b=dv a:=by
 have nB:b.length<=a.length:=by
  by_cases h:a.length<b.length
  .have:=VH ha nb hb h;lia
  .lia
 unfold af;rw[aF h];simp only[go_sem,M8];generalize hq:D P L (.loop _ An) _=q;obtain⟨ex,s,rfl,tm,out,rfl,hd,aO,hl,hs⟩:=aW hq (avp (P:=P) (L:=L) oP hv hw ha hb la hle nB a.length) ⟨0,0,[],by lia,rfl,by lia,rfl,by simp[dv],.inl ⟨rfl,by simp only[go_sem,ya,ae,an hv.pu,an hw.pu]<;>rfl⟩⟩
 have kG:=lF ycO out;rcases hs with ⟨h0,h5,rfl⟩ | ⟨h0,h5,rfl⟩
 .subst h0;have⟨r,e1,hr,jU⟩:=Dw cR (v:=.ab) (l:=[]) q8 (by simp);refine⟨r,eB [],?_,hr,jU,rfl,rfl,by rw[Bq];exact aO⟩
  simp only[go_sem,ae,h5,e1,jU,hr.eG]
 .have ⟨r,e1,hr,jU⟩:=Dw cR kG hl;refine⟨r,eB out,?_,hr,jU,CK hd,He out,by rw[Bq];exact aO⟩
  have iN:∀hp:Hp,kW 0 out.length (GW (ycO,1,out.map aa,hp))=GW (.ap ycO out.length (out.map aa),hp):=fun hp=>fL ycO (by simp) (by decide)
  simp only[go_sem,yb,ae,h5,iN,e1,jU,hr.eG]
def Ee{hp:Hp}{ct id o:Nat}{v:Int}{ex:Bool}{l:List Int}(h:o<l.length):dS hp ct id o 1 [.int .i64 v] (GW (.cells ycN ycN ex 1 (l.map aa)))=GW (.av [],aY hp id (.cells ycN ycN ex 1 ((l.set o v).map aa)),ct):=by
 rw[zn (by rfl) (by simp;lia) (by rfl)]
 have:over o [AV.int .i64 v] (l.map aa)=(l.set o v).map aa:=by
  simp only[over,yx,yN,yf];rw[yaH,vn,yK (by simpa using h)]
  simp
 rw[this];rfl
def Aw{l:List Int}{o:Nat}(h:o<l.length):vW o (l.map aa)=AV.int .i64 (l.getD o 0)::vW (o+1) (l.map aa):=by
 rw[yT (by simpa using h)]
 grind
def zo{v:AV}{l:List Int}(hv:bh v l){i:Nat}(h:i<l.length):fc 1 i v=GW (.bN (.int .i64 (l.getD i 0)::(l.map aa).drop (i+1))):=by
 rw[hv.a6 h]
 grind
def apT{o x y c:Int}(ho:0<=o/\o<1000000000)(hx:0<=x/\x<1000000000)(hy:0<=y/\y<1000000000)(hc:0<=c/\c<1000000000):
  (0<=x*y/\x*y<=999999998000000001)/\0<=o+x*y+c/\o+x*y+c<1000000000000000000:=by
 have h1:=tK hx.1 hy.1;have h2:=ybR (show x<=999999999 by lia) (show y<=999999999 by lia) hy.1 (by decide)
 lia
def avq{v w:AV}{a b:List Int}(hv:bh v a)(hw:bh w b)(ha:dg a)(hb:dg b)(la:a.length<=20000000000)(lb:b.length<=20000000000){n i:Nat}(hn:n=a.length+b.length)(hi:i<a.length){out0:List Int}:
  bP P L [0,1,5,6,7,8] Lz (fun k s=>∃(j:Nat) (c:Int) (out:List Int),s=⟨[(0,v),(1,w),(5,.aq 0 0 n),(6,aa i),(7,aa c),(8,aa j)],[(0,.cells ycN ycN ycN 1 (out.map aa))],1,0⟩/\j+k=b.length/\out.length=n/\dg out/\(0<=c/\c<1000000000)/\
    dv out+1000000000^i*1000000000^j*c.toNat=dv out0+1000000000^i*((a.getD i 0).toNat*dv (b.take j))/\(∀m,i+b.length<=m->out.getD m 0=out0.getD m 0)) (fun ex s'=>∃tm c out,s'=⟨tm,[(0,.cells ycN ycN ycN 1 (out.map aa))],1,0⟩/\ex=.exit 2/\ai tm 0=v/\ai tm 1=w/\ai tm 5=.aq 0 0 n/\ai tm 6=aa i/\ai tm 7=aa c/\out.length=n/\dg out/\(0<=c/\c<1000000000)/\
    dv out+1000000000^i*1000000000^b.length*c.toNat=dv out0+1000000000^i*((a.getD i 0).toNat*dv b)/\(∀m,i+b.length<=m->out.getD m 0=out0.getD m 0)):=by
 apply bQ;rintro k s ⟨j,c,out,rfl,hk,hlen,hd,hc,aO,ie⟩;by_cases hj:j<b.length
 .left
  obtain⟨x,hx⟩:∃x,x=a.getD i 0:=⟨_,rfl⟩;obtain⟨y,hy⟩:∃y,y=b.getD j 0:=⟨_,rfl⟩;obtain⟨o,ho⟩:∃o,o=out.getD (i+j) 0:=⟨_,rfl⟩;have gx:=iT ha i;have gy:=iT hb j;have oY:=iT hd (i+j);rw[<-hx] at gx;rw[<-hy] at gy;rw[<-ho] at oY;have⟨p1,p2,p3⟩:=apT oY gx gy hc;obtain⟨t,ht⟩:∃t:Nat,o+x*y+c=t:=⟨(o+x*y+c).toNat,by lia⟩;have hr:((t:Nat):Int).tmod 1000000000=((t%1000000000:Nat):Int):=by rw[xH (by lia)];rfl
  have hq:((t:Nat):Int).tdiv 1000000000=((t/1000000000:Nat):Int):=by rw[xR (by lia)];rfl
  have e1:=zo hv hi;have e2:=zo hw hj;rw[<-hx] at e1;rw[<-hy] at e2;have e3:=Aw (l:=out) (o:=i+j) (by lia);rw[<-ho] at e3;have Ci:t=o.toNat+x.toNat*y.toNat+c.toNat:=by
   have:((x.toNat*y.toNat:Nat):Int)=x*y:=by rw[xk,ybf gx.1,ybf gy.1]
   lia
  have aY:=VI (l:=out) (j:=i+j) (x:=((t%1000000000:Nat):Int)) (by lia);rw[<-ho,wa,xL] at aY;have mo:=aoF (Y:=dv (b.take j)) Ci aY (by rw[hx];exact aO)
  simp only[go_sem,ya,yi,Lz,hw.len,show (j:Int)<b.length by lia,wrapN (n:=i+j) (by lia),show (i:Int)+(j:Int)=((i+j:Nat):Int) from rfl,dn 0 0 (show i+j<n by lia),yf,e3,e1,e2,wrap64 (n:=x*y) (by lia) (by lia),wrap64 (n:=o+x*y) (by lia) (by lia),ht,wrapN (n:=t) (by lia),fF _ _ _ (show (1000000000:Int)≠0 by decide),dl _ _ _ (show (1000000000:Int)≠0 by decide),hr,hq,wrapN (n:=t/1000000000) (by lia),Ee (l:=out) (o:=i+j) (by lia)];refine⟨_,k-1,rfl,by lia,j+1,((t/1000000000:Nat):Int),out.set (i+j) ((t%1000000000:Nat):Int),?_,by lia,by simp[hlen],Qk hd (by lia),by lia,?_,fun m hm=>?_⟩
  .rw [wrap64 (by lia) (by lia)];simp only[go_sem,ya,yb,ae,an hv.pu,an hw.pu]<;>rfl
  .rw [wa,rn,xt,<-hx,<-hy];exact mo
  .rw [acU (by lia)];exact ie m hm
 .right
  have:j=b.length:=by lia
  subst this;rw[xP] at aO;simp only[go_sem,ya,Lz,hw.len,show ¬(b.length:Int)<b.length by lia];exact⟨_,_,rfl,by simp,_,c,out,rfl,rfl,rfl,rfl,rfl,rfl,rfl,hlen,hd,hc,aO,ie⟩
section
variable {v w:AV}{a b:List Int}
def Ud(n:Nat):(yD n [AV.int .i64 0]).flatten=(yD n (0:Int)).map aa:=by simp_all
def arU(b:Bool):IJ ycN (GW b)=GW (.bool (!b)):=by cases b<;>rfl
def abx(n m:Nat):(yD n (0:Int)).getD m 0=0:=by grind
def avr(hv:bh v a)(hw:bh w b)(ha:dg a)(hb:dg b)(la:a.length<=20000000000)(lb:b.length<=20000000000){n:Nat}(hn:n=a.length+b.length):
  bP P L [0,1,5,6] LA (fun k s=>∃(i:Nat) (out:List Int),s=⟨[(0,v),(1,w),(5,.aq 0 0 n),(6,aa i)],[(0,.cells ycN ycN ycN 1 (out.map aa))],1,0⟩/\i+k=a.length/\out.length=n/\dg out/\dv out=dv (a.take i)*dv b/\(∀m,i+b.length<=m->out.getD m 0=0)) (fun ex s'=>∃tm out,s'=⟨tm,[(0,.cells ycN ycN ycN 1 (out.map aa))],1,0⟩/\ex=.exit 0/\ai tm 5=.aq 0 0 n/\out.length=n/\dg out/\dv out=dv a*dv b):=by
 apply bQ;rintro k s ⟨i,out,rfl,hk,hlen,hd,aO,ie⟩;by_cases hi:i<a.length
 .left
  simp only[go_sem,ya,LA,hv.len,show (i:Int)<a.length by lia];generalize hq:D P L (.loop _ Lz) _=q;obtain⟨ex,s,rfl,tm,c,AK,rfl,rfl,t0,t1,t5,t6,t7,Wz,sM,hc,WA,Nn⟩:=aW hq (avq (P:=P) (L:=L) hv hw ha hb la lb hn hi (out0:=out) b.length) ⟨0,0,out,by simp only[go_sem,ya,yb,ae,an hv.pu,an hw.pu]<;>rfl,by lia,hlen,hd,by lia,by simp[dv],fun m _=>rfl⟩
  have hz:AK.getD (i+b.length) 0=0:=by rw[Nn _ (yz _),ie _ (yz _)]
  have e3:=Aw (l:=AK) (o:=i+b.length) (by lia);rw[hz] at e3;have aY:=VI (l:=AK) (j:=i+b.length) (x:=c) (by lia);rw[hz,xL] at aY
  simp only[go_sem,ya,yi,ae,t0,t1,t5,t6,t7,hw.len,an hv.pu,an hw.pu,wrapN (n:=i+b.length) (by lia),show (i:Int)+(b.length:Int)=((i+b.length:Nat):Int) from rfl,dn 0 0 (show i+b.length<n by lia),yf,e3,Int.zero_add,wrap64 (n:=c) (by lia) (by lia),Ee (l:=AK) (o:=i+b.length) (by lia)];refine⟨_,k-1,rfl,by lia,i+1,AK.set (i+b.length) c,?_,by lia,by simp[Wz],Qk sM hc,?_,fun m hm=>?_⟩
  .rw [wrap64 (by lia) (by lia)];simp only[go_sem,ya,yb,ae,an hv.pu,an hw.pu]<;>rfl
  .rw [rn,wg,<-aO,xm];simp only[Int.toNat_zero,xI,xd] at aY;rw[aY];exact WA
  .rw [acU (by lia),Nn m (by lia),ie m (by lia)]
 .right
  have:i=a.length:=by lia
  subst this;rw[xP] at aO;simp only[go_sem,ya,LA,hv.len,show ¬(a.length:Int)<a.length by lia];exact⟨_,_,rfl,by simp,_,out,rfl,rfl,rfl,hlen,hd,aO⟩
def XR(h:Has P L 293 Dp)(cR:Has P L 300 nc)(hv:bh v a)(hw:bh w b)(ha:dg a)(hb:dg b)(la:a.length<=8000000000)(lb:b.length<=8000000000):
  ∃r out,af P L 293 [v,w] r/\bh r out/\shut r=r/\dg out/\nz out/\dv out=dv a*dv b:=by
 obtain⟨n,hn⟩:∃n,n=a.length+b.length:=⟨_,rfl⟩;have cI:∀ct:Nat,AH ct 1 8 [.int .i64 0] (GW n) (GW n)=GW (.aq ct 0 n,.cells ycN ycN ycN 1 ((yD n (0:Int)).map aa)):=fun ct=>by
  rw[HZ (sz:=1) (by lia) (by lia) (by rfl) (by rfl),Ud];rfl
 unfold af;rw[aF h]
 simp only[go_sem,ya,yb,Dp,hv.len,hw.len,wrapN (n:=n) (by lia),show (a.length:Int)+(b.length:Int)=((a.length+b.length:Nat):Int) from rfl,<-hn,cI];generalize hq:D P L (.loop _ LA) _=q;obtain⟨ex,s,rfl,tm,out,rfl,rfl,t5,hlen,hd,aO⟩:=aW hq (avr (P:=P) (L:=L) hv hw ha hb (by lia) (by lia) hn a.length) ⟨0,yD n 0,by simp only[go_sem,ya,yb,ae,an hv.pu,an hw.pu]<;>rfl,by lia,by simp,acW n,by rw[acV];simp[dv],fun m _=>abx n m⟩
 have kG:=lF ycN out;rw[hlen] at kG;have⟨r,e1,hr,jU⟩:=Dw cR kG (by lia);refine⟨r,eB out,?_,hr,jU,CK hd,He out,by rw[Bq];exact aO⟩
 have iN:∀hp:Hp,kW 0 n (GW (ycN,1,out.map aa,hp))=GW (.ap ycN n (out.map aa),hp):=fun hp=>fL ycN (by simp[hlen]) (by decide)
 simp only[go_sem,yb,ae,t5,iN,e1,jU,hr.eG]
def Nz(h:Has P L 278 RI)(my:Has P L 293 Dp)(jl:Has P L 294 Dq)(cR:Has P L 300 nc){n m:Int}{K:Nat}(hK:K<=8000000000)(hv:lk v n)(hw:lk w m)(hn:n.natAbs<1000000000^K)(hm:m.natAbs<1000000000^K):
  ∃r,af P L 278 [v,w] r/\lk r (n*m):=by
 obtain⟨x,a,rfl,hx,ha,na,va⟩:=hv;obtain⟨y,b,rfl,hy,hb,nb,vb⟩:=hw;have la:=xn (kj ha na (by rw[va];exact hn)) hK
 have lb:=xn (kj hb nb (by rw[vb];exact hm)) hK
 have⟨z,out,e1,hz,jU,hd,D6,aO⟩:=XR my cR hx hy ha hb la lb;have lo:out.length<=20000000000:=by
  refine kj hd D6 ?_;rw[aO];have h1:=kR ha;have h2:=kR hb;have h3:dv a*dv b<1000000000^a.length*1000000000^b.length:=yah h1 h2;rw[<-xL] at h3;have hk:∀K,a.length+b.length<=K->dv a*dv b<1000000000^K:=fun K h=>yR h3 (xe (by decide) h)
  exact hk 20000000000 (by lia)
 have⟨r,e2,hr⟩:=zu jl cR (!(decide (n<0)==decide (m<0))) hz hd lo;have e:cF (!(decide (n<0)==decide (m<0))) (dv out)=n*m:=by
  rw[aO,va,vb];have hnm:((n.natAbs*m.natAbs:Nat):Int)=(n.natAbs:Int)*m.natAbs:=xk _ _;unfold cF;by_cases h0:n<0<;>by_cases h1:m<0<;>simp only[h0,h1,yy,yA,tO,y9,yL,xE,hnm]
  .rw [show (n.natAbs:Int)= -n by lia,show (m.natAbs:Int)= -m by lia,Int.neg_mul_neg]
  .rw [show (ycN==ycO)=ycO from rfl,xb,yK rfl,show (n.natAbs:Int)= -n by lia,show (m.natAbs:Int)=m by lia,Int.neg_mul,yao]
  .rw [show (ycO==ycN)=ycO from rfl,xb,yK rfl,show (n.natAbs:Int)=n by lia,show (m.natAbs:Int)= -m by lia,Int.mul_neg,yao]
  .rw [show (n.natAbs:Int)=n by lia,show (m.natAbs:Int)=m by lia]
 rw[e] at hr;obtain⟨w2,l2,rfl,iR,js,lc,BZ⟩:=hr;refine⟨_,?_,w2,l2,rfl,iR,js,lc,BZ⟩;unfold af at e1 e2 ⊢;rw[aF h];simp only[go_sem,ya,yb,RI,aR,hx.pu,hx.ak,hx.one,hy.pu,hy.ak,hy.one,hz.ak,hz.shut,iR.pu,iR.one,bH,yf,du,e1,rO,arU,e2,gl,a8];rcases iR with ⟨rfl,_⟩ | ⟨e,rfl⟩<;>rfl
end
def arV(i:Nat)(q:List Int)(x:Int):(yD (i+1) (0:Int)++q).set i x=yD i 0++x::q:=by
 rw[List.replicate_succ',xJ,List.set_append_right _ _ (by simp)]
 simp
def avt{v:AV}{a:List Int}(hv:bh v a)(ha:dg a)(la:a.length<=20000000000){d:Nat}(h0:0<d)(h1:d<1000000000):
  bP P L [0,1,6,7,8] LB (fun k s=>∃(j r:Nat) (q:List Int),s=⟨[(0,v),(1,aa d),(6,.aq 0 0 a.length),(7,aa r),(8,aa ((j:Int)-1))],[(0,.cells ycN ycN ycN 1 ((yD j (0:Int)++q).map aa))],1,0⟩/\j=k/\j+q.length=a.length/\r<d/\dg q/\dv (a.drop j)=d*dv q+r) (fun ex s'=>∃tm r q,s'=⟨tm,[(0,.cells ycN ycN ycN 1 (q.map aa))],1,0⟩/\ex=.exit 0/\ai tm 6=.aq 0 0 a.length/\ai tm 7=aa (r:Nat)/\q.length=a.length/\r<d/\dg q/\dv a=d*dv q+r):=by
 apply bQ;rintro k s ⟨j,r,q,rfl,rfl,hl,hr,hd,aO⟩
 cases j with
 | zero=>
  right
  simp only[go_sem,ya,LB,show ¬(0:Int)<=((0:Nat):Int)-1 by lia];exact⟨_,_,rfl,by simp,_,r,q,rfl,rfl,rfl,rfl,by lia,hr,hd,aO⟩
 | succ i=>
  left
  have hi:i<a.length:=by lia
  obtain⟨x,hx⟩:∃x,x=a.getD i 0:=⟨_,rfl⟩;have e1:=zo hv hi;have gx:=iT ha i;rw[<-hx] at e1 gx;obtain⟨t,ht⟩:∃t:Nat,t=r*1000000000+x.toNat:=⟨_,rfl⟩;have Ci:(r:Int)*1000000000+x=(t:Int):=by lia
  have lY:t<d*1000000000:=by
   lia
  have fE:t/d<1000000000:=(xM h0).2 (by rw[xz];exact lY)
  have dQ:t%d<d:=xO _ h0;have e2:((t:Nat):Int).tdiv d=((t/d:Nat):Int):=by rw[xR (by lia)];rfl
  have e3:((t:Nat):Int).tmod d=((t%d:Nat):Int):=by rw[xH (by lia)];rfl
  have On:(yD (i+1) (0:Int)++q).length=a.length:=by simp;lia
  have aU:=fun (hp:Hp) (ct id:Nat) (ex:Bool)=>Ee (hp:=hp) (ct:=ct) (id:=id) (ex:=ex) (v:=((t/d:Nat):Int)) (l:=yD (i+1) (0:Int)++q) (o:=i) (by rw[On];exact hi)
  simp only[arV] at aU
  simp only[go_sem,ya,yi,LB,show ((i+1:Nat):Int)-1=(i:Int) by lia,show (0:Int)<=(i:Int) by lia,wrap64 (n:=(r:Int)*1000000000) (by lia) (by lia),e1,Ci,wrapN (n:=t) (by lia),dl _ _ _ (show (d:Int)≠0 by lia),fF _ _ _ (show (d:Int)≠0 by lia),e2,e3,wrapN (n:=t/d) (by lia),dn 0 0 (show i<a.length from hi),yf,aU]
  refine⟨_,i,rfl,by lia,i,t%d,((t/d:Nat):Int)::q,?_,rfl,by simp;lia,dQ,(iF (a:=[((t/d:Nat):Int)]) (b:=q)).2 ⟨me.2 ⟨yat _,tr.2 fE⟩,hd⟩,?_⟩
  .rw [wrap64 (by lia) (by lia)];simp only[go_sem,ya,yb,ae,an hv.pu]<;>rfl
  .have jS:a.drop i=x::a.drop (i+1):=by
    rw[yT hi,hx];simp[yU,xf hi]
   rw[jS];simp only[dv,aO,wa];have e:=wm t d;rw[xK,xK d,Nat.mul_left_comm 1000000000 d]
   lia
def ahu(h:Has P L 299 Dr)(cR:Has P L 300 nc){v:AV}{a:List Int}(hv:bh v a)(ha:dg a)(la:a.length<=20000000000){d:Nat}(h0:0<d)(h1:d<1000000000):
  ∃r q,af P L 299 [v,aa d] (.av [r,aa (dv a%d:Nat)])/\bh r q/\shut r=r/\bA r=r/\dg q/\nz q/\dv q=dv a/d:=by
 obtain⟨n,hn⟩:∃n,n=a.length:=⟨_,rfl⟩;have cI:∀ct:Nat,AH ct 1 8 [.int .i64 0] (GW n) (GW n)=GW (.aq ct 0 n,.cells ycN ycN ycN 1 ((yD n (0:Int)).map aa)):=fun ct=>by
  rw[HZ (sz:=1) (by lia) (by lia) (by rfl) (by rfl),Ud];rfl
 unfold af;rw[aF h];simp only[go_sem,ya,yb,Dr,hv.len,<-hn,cI];generalize hq:D P L (.loop _ LB) _=q;obtain⟨ex,s,rfl,tm,r,qs,rfl,rfl,t6,t7,hlen,hr,hd,aO⟩:=aW hq (avt (P:=P) (L:=L) hv ha la h0 h1 a.length) ⟨a.length,0,[],by
  rw[wrap64 (by lia) (by lia),wz,<-hn]
  simp only[go_sem,ya,yb,ae,an hv.pu]<;>rfl,rfl,by simp,h0,rfl,by rw[yZ (yz _)];simp[dv]⟩
 have kG:=lF ycN qs;rw[hlen] at kG;have⟨w,e1,hw,jU⟩:=Dw cR kG (by lia);have fg:dv a/d=dv qs/\dv a%d=r:=(Nat.div_mod_unique h0).2 ⟨by lia,hr⟩;refine⟨w,eB qs,?_,hw,jU,hw.bA,CK hd,He qs,by rw[Bq,fg.1]⟩;have iN:∀hp:Hp,kW 0 a.length (GW (ycN,1,qs.map aa,hp))=GW (.ap ycN a.length (qs.map aa),hp):=fun hp=>fL ycN (by simp[hlen]) (by decide)
 rw[fg.2];simp only[go_sem,ya,yb,ae,t6,t7,iN,e1,jU];rcases hw with ⟨rfl,_⟩ | ⟨e,rfl⟩<;>rfl
def az8(h:Has P L 279 Iv)(XS:Has P L 295 M7)(qg:Has P L 296 AF)(Sm:Has P L 297 M8)(oP:Has P L 302 AG)(jl:Has P L 294 Dq)(cR:Has P L 300 nc){v w:AV}{n m:Int}{K:Nat}(hK:K<=8000000000)(hv:lk v n)(hw:lk w m)(hn:n.natAbs<1000000000^K)(hm:m.natAbs<1000000000^K):
  ∃r,af P L 279 [v,w] r/\lk r (n+m):=by
 obtain⟨x,a,rfl,hx,ha,na,va⟩:=hv;obtain⟨y,b,rfl,hy,hb,nb,vb⟩:=hw;have la:=xn (kj ha na (by rw[va];exact hn)) hK
 have lb:=xn (kj hb nb (by rw[vb];exact hm)) hK
 by_cases hs:(decide (n<0)==decide (m<0))=ycN
 .have ⟨z,out,e1,hz,hd,aO,hl⟩:=az7 XS oP hx hy ha hb (by lia) (by lia);have lo:out.length<=20000000000:=by lia
  have⟨r,e2,hr⟩:=zu jl cR (decide (n<0)) hz hd lo;have e:cF (decide (n<0)) (dv out)=n+m:=by
   have zV:(n<0)=(m<0):=by simpa using eq_of_beq hs
   rw[aO,va,vb];unfold cF;by_cases h0:n<0
   .have h1:m<0:=zV▸h0;simp only[h0,yy,xS];lia
   .have h1:¬m<0:=zV▸h0;simp only[h0,yA,yL,xE];lia
  rw[e] at hr;obtain⟨w2,l2,rfl,iR,js,lc,BZ⟩:=hr;refine⟨_,?_,w2,l2,rfl,iR,js,lc,BZ⟩;unfold af at e1 e2 ⊢;rw[aF h];simp only[go_sem,ya,yb,Iv,aR,hx.pu,hx.ak,hx.one,hy.pu,hy.ak,hy.one,hz.ak,iR.pu,iR.one,bH,yf,du,e1,rO,eP,hs,e2,gl,a8];rcases iR with ⟨rfl,_⟩ | ⟨e,rfl⟩<;>rfl
 .have hs:(decide (n<0)==decide (m<0))=ycO:=by simpa using hs
  have zV:¬((n<0)=(m<0)):=fun e=>by simp[e] at hs
  have ec:=XQ qg hx hy ha hb na nb (by lia) (by lia);by_cases hc:dv a<dv b
  .have dW:dZ (dv a) (dv b)= -1:=by unfold dZ;rw[yK hc]
   rw[dW] at ec;have⟨z,out,e1,hz,jU,hd,D6,aO⟩:=aht Sm oP cR hy hx hb ha nb na (by lia) (by lia);have lo:out.length<=20000000000:=by
    refine kj hd D6 ?_
    have:=kR hb
    have hk:∀K,b.length<=K->dv out<1000000000^K:=fun K h=>yR (show dv out<1000000000^b.length by lia) (xe (by decide) h)
    exact hk 20000000000 (by lia)
   have⟨r,e2,hr⟩:=zu jl cR (decide (m<0)) hz hd lo;have e:cF (decide (m<0)) (dv out)=n+m:=by
    rw[va,vb] at aO;unfold cF;by_cases h0:m<0
    .have h1:¬n<0:=fun h1=>zV (by simp[h0,h1])
     simp only[h0,yy,xS];lia
    .have h1:n<0:=by
      by_cases h1:n<0
      .exact h1
      .exact absurd (by simp[h0,h1]) zV
     simp only[h0,yA,yL,xE];lia
   rw[e] at hr;obtain⟨w2,l2,rfl,iR,js,lc,BZ⟩:=hr;refine⟨_,?_,w2,l2,rfl,iR,js,lc,BZ⟩;unfold af at e1 e2 ec ⊢;rw[aF h];simp only[go_sem,ya,yb,Iv,aR,hx.pu,hx.ak,hx.one,hy.pu,hy.ak,hy.one,hz.ak,hz.shut,iR.pu,iR.one,bH,yf,du,e1,rO,eP,hs,ec,show ¬(0:Int)<=-1 by decide,e2,gl,a8];rcases iR with ⟨rfl,_⟩ | ⟨e,rfl⟩<;>rfl
  .have dW:(0:Int)<=dZ (dv a) (dv b):=by unfold dZ;rw[yI hc];split<;>decide
   have⟨z,out,e1,hz,jU,hd,D6,aO⟩:=aht Sm oP cR hx hy ha hb na nb (by lia) (by lia);have lo:out.length<=20000000000:=by
    refine kj hd D6 ?_
    have:=kR ha
    have hk:∀K,a.length<=K->dv out<1000000000^K:=fun K h=>yR (show dv out<1000000000^a.length by lia) (xe (by decide) h)
    exact hk 20000000000 (by lia)
   have⟨r,e2,hr⟩:=zu jl cR (decide (n<0)) hz hd lo;have e:cF (decide (n<0)) (dv out)=n+m:=by
    rw[va,vb] at aO;unfold cF;by_cases h0:n<0
    .have h1:¬m<0:=fun h1=>zV (by simp[h0,h1])
     simp only[h0,yy,xS];lia
    .have h1:m<0:=by
      by_cases h1:m<0
      .exact h1
      .exact absurd (by simp[h0,h1]) zV
     simp only[h0,yA,yL,xE];lia
   rw[e] at hr;obtain⟨w2,l2,rfl,iR,js,lc,BZ⟩:=hr;refine⟨_,?_,w2,l2,rfl,iR,js,lc,BZ⟩;unfold af at e1 e2 ec ⊢;rw[aF h];simp only[go_sem,ya,yb,Iv,aR,hx.pu,hx.ak,hx.one,hy.pu,hy.ak,hy.one,hz.ak,hz.shut,iR.pu,iR.one,bH,yf,du,e1,rO,eP,hs,ec,dW,e2,gl,a8];rcases iR with ⟨rfl,_⟩ | ⟨e,rfl⟩<;>rfl
def aeb{l:List Int}(hd:dg l)(hn:nz l)(h:dv l<1000000000):l.length<=1:=kj hd hn (by simpa using h)
def az9(h:Has P L 289 AE)(qg:Has P L 296 AF)(rY:Has P L 299 Dr)(cR:Has P L 300 nc){v w:AV}{a b:List Int}(hv:bh v a)(hw:bh w b)(ha:dg a)(hb:dg b)(na:nz a)(nb:nz b)(la:a.length<=20000000000)(lb:b.length<=1)(h0:0<dv b):
  ∃q r lq lr,af P L 289 [v,w] (.av [q,r])/\bh q lq/\bh r lr/\dg lq/\nz lq/\dg lr/\nz lr/\dv lq=dv a/dv b/\dv lr=dv a%dv b:=by
 have ec:=XQ qg hv hw ha hb na nb la (by lia);by_cases hc:dv a<dv b
 .have dW:dZ (dv a) (dv b)= -1:=by unfold dZ;rw[yK hc]
  rw[dW] at ec;refine⟨.ab,v,[],a,?_,q8,hv,rfl,rfl,ha,na,?_,?_⟩
  .unfold af;rw[aF h];simp only[go_sem,ya,AE,hv.ak,hw.ak,ec,show (-1:Int)<0 by decide];rcases hv with ⟨rfl,_⟩ | ⟨e,rfl⟩<;>rfl
  .rw [xW hc];rfl
  .rw [yY hc]
 .have dW:¬dZ (dv a) (dv b)<0:=by unfold dZ;rw[yI hc];split<;>decide
  have jn:b.length=1:=by
   rcases xv b.length with e | e
   .rw [yt e] at h0;simp[dv] at h0
   .lia
  obtain⟨x,rfl⟩:∃x,b=[x]:=by
   cases b with
   | nil=>simp at jn
   | cons x r=>cases r with
    | nil=>exact⟨x,rfl⟩
    | cons y r=>simp at jn
  have gx:=me.1 hb;obtain⟨d,hd⟩:∃d:Nat,x=d:=⟨x.toNat,by lia⟩;subst hd;have hdd:dv [((d:Nat):Int)]=d:=by simp[dv]
  rw[hdd] at h0 hc dW ec ⊢;have⟨q,lq,e1,hq,Ef,aAa,dq,nq,vq⟩:=ahu rY cR hv ha la h0 (by lia);have af1:dv a%d<d:=xO _ h0;generalize dv a%d=m at*
  have⟨r,e2,hr,Cg⟩:=Dw cR (lF ycN [(m:Int)]) (by simp);refine⟨q,r,lq,eB [(m:Int)],?_,hq,hr,dq,nq,CK (me.2 (by lia)),He _,vq,by rw[Bq];simp[dv]⟩;have e3:=hw.a6 (i:=0) (by simp);simp only[yx,yN,yf,xi,wW,tj] at e2 e3;unfold af;rw[aF h];simp only[go_sem,ya,yb,yG,yk,yi,AE,hv.ak,hw.len,hw.ak,ec,dW,yx,yN,show ((1:Nat):Int)=(1:Int) from rfl,yy,e3,e1,aAa,e2,Cg];rcases hq with ⟨rfl,_⟩ | ⟨e,rfl⟩<;>rcases hr with ⟨rfl,_⟩ | ⟨e',rfl⟩<;>rfl
section
variable {l post pre qs vs:List Int}{r t:Nat}
def sv:List Int->Int
 | []=>0
 | a::r=>a+1000000000*sv r
def acj:∀(a b:List Int),sv (a++b)=sv a+1000000000^a.length*sv b
 | [],b=>by simp[sv]
 | x::a,b=>by
  simp only[xh,sv,acj a b,yx,yab,yaY]
  grind
def avu(x:Int):sv [x]=x:=by simp[sv]
def H0:∀{l:List Int} {i:Nat} {x:Int},i<l.length->sv (l.set i x)=sv l+1000000000^i*(x-l.getD i 0)
 | [],i,x,h=>by simp at h
 | a::l,0,x,_=>by simp[sv];lia
 | a::l,i+1,x,h=>by
  have ih:=H0 (l:=l) (i:=i) (x:=x) (by simpa using h);simp only[List.set_cons_succ,sv,List.getD_cons_succ,ih,yab,yaY]
  grind
def Qa(i:Nat):sv (l.take (i+1))=sv (l.take i)+1000000000^i*l.getD i 0:=by
 by_cases h:i<l.length
 .rw [yS h,acj,yO,xA (by lia),avu]
  grind
 .rw [yq (by lia),yq (by lia),KS (by lia),Int.mul_zero,yaz]
def BL:∀{l:List Int},dg l->sv l=dv l
 | [],_=>rfl
 | a::l,h=>by
  have⟨h1,h2⟩:=iF.1 (show dg ([a]++l) from h);have h1:=me.1 h1;simp only[sv,dv,BL h2,uZ,xk]
  lia
section
variable {pre x post:List Int}{i:Nat}
def pT:(pre++x++post).length=pre.length+x.length+post.length:=by grind
def C9(h:i<x.length):(pre++x++post).getD (pre.length+i) 0=x.getD i 0:=by grind
def Qq(a:Int)(h:i<x.length):(pre++x++post).set (pre.length+i) a=pre++x.set i a++post:=by simp_all
end
def aeJ{i m:Nat}{x:Int}(h:i≠m):(l.set i x).getD m 0=l.getD m 0:=by simp_all
def anG{i:Nat}{x:Int}(h:i<l.length):(l.set i x).getD i 0=x:=by simp_all
abbrev H3(q u:List Int)(f:Int):Hp:=[(2,.cells ycN ycN ycN 1 (q.map aa)),(1,.cells ycN ycN ycO 1 (u.map aa)),(0,.cells ycO ycN ycN 1 [aa f])]
def PM{live:List Nat}{tm:Env}{ct:Nat}{a b c:List AV}(ht:zm 3 (cu tm live))(hl:(kA (cu tm live)).length<100000):
  bq live ⟨tm,[(2,.cells ycN ycN ycN 1 a),(1,.cells ycN ycN ycO 1 b),(0,.cells ycO ycN ycN 1 c)],ct,3⟩=⟨cu tm live,[(2,.cells ycN ycN ycN 1 a),(1,.cells ycN ycN ycO 1 b),(0,.cells ycO ycN ycN 1 c)],3,3⟩:=
 aaT ht ⟨by lia,.inl rfl,by lia,.inl rfl,by lia,.inl rfl,trivial⟩ (by
  have:j9 3 [(2,Obj.cells ycN ycN ycN 1 a),(1,Obj.cells ycN ycN ycO 1 b),(0,Obj.cells ycO ycN ycN 1 c)]=[]:=rfl
  rw[this,yN,xd];exact hl)
structure gR(x vs:List Int)(n v1 v2 u0 u1 u2:Nat):Prop where
 n2:2<=n
 nb:n<=20000000000
 lx:x.length=n+1
 lv:vs.length=n
 gx:dg x
 gv:dg vs
 fC:vs.getD (n-1) 0=(v1:Int)
 de:vs.getD (n-2) 0=(v2:Int)
 h0:x.getD n 0=(u0:Int)
 h1:x.getD (n-1) 0=(u1:Int)
 h2:x.getD (n-2) 0=(u2:Int)
 pos:0<v1
 lt:dv x<1000000000*dv vs
section
variable {x vs:List Int}{n v1 v2 u0 u1 u2:Nat}
def gR.Oo(h:gR x vs n v1 v2 u0 u1 u2):v1<1000000000:=by have:=iT h.gv (n-1);rw[h.fC] at this;lia
def gR.Gy(h:gR x vs n v1 v2 u0 u1 u2):v2<1000000000:=by have:=iT h.gv (n-2);rw[h.de] at this;lia
def gR.u0W(h:gR x vs n v1 v2 u0 u1 u2):u0<1000000000:=by have:=iT h.gx n;rw[h.h0] at this;lia
def gR.Oq(h:gR x vs n v1 v2 u0 u1 u2):u1<1000000000:=by have:=iT h.gx (n-1);rw[h.h1] at this;lia
def gR.Ot(h:gR x vs n v1 v2 u0 u1 u2):u2<1000000000:=by have:=iT h.gx (n-2);rw[h.h2] at this;lia
def gR.parts(h:gR x vs n v1 v2 u0 u1 u2):∃p vr ur,dv vs=(v1*1000000000+v2)*p+vr/\vr<p/\dv x=((u0*1000000000+u1)*1000000000+u2)*p+ur/\ur<p:=by
 obtain⟨m,hm⟩:∃m,n=m+2:=⟨n-2,by have:=h.n2;lia⟩
 subst hm;have e1:=rn (l:=vs) (m+1);have e2:=rn (l:=vs) m;have f0:=rn (l:=x) (m+2);have f1:=rn (l:=x) (m+1);have f2:=rn (l:=x) m;have fC:vs.getD (m+1) 0=(v1:Int):=h.fC;have de:vs.getD m 0=(v2:Int):=h.de;have h0:x.getD (m+2) 0=(u0:Int):=h.h0;have h1:x.getD (m+1) 0=(u1:Int):=h.h1;have h2:x.getD m 0=(u2:Int):=h.h2
 rw[yq (by have:=h.lv;lia),fC,e2,de] at e1
 rw[yq (by have:=h.lx;lia),h0,f1,h1,f2,h2] at f0
 simp only[wa] at e1 f0;have g1:=kR (EG h.gv m)
 rw[yO,xA (by have:=h.lv;lia)] at g1
 have g2:=kR (EG h.gx m)
 rw[yO,xA (by have:=h.lx;lia)] at g2
 refine⟨1000000000^m,_,_,?_,g1,?_,g2⟩
 .rw [e1,xt,axV]
 .rw [f0,show 1000000000^(m+2)=1000000000^m*1000000000*1000000000 by rw[xt,xt],xt,axW]
def gR.down(h:gR x vs n v1 v2 u0 u1 u2)(ht:t*v1+r=u0*1000000000+u1)(hr:r*1000000000+u2<t*v2):dv x/dv vs<=t-1:=by
 have⟨p,vr,ur,h1,h2,h3,h4⟩:=h.parts;exact abj h1 h3 h4 ht hr
def gR.stop(h:gR x vs n v1 v2 u0 u1 u2)(lY:t<1000000000)(ht:t*v1+r=u0*1000000000+u1)(hr:1000000000<=r\/t*v2<=r*1000000000+u2):t<=dv x/dv vs+1:=by
 have⟨p,vr,ur,h1,h2,h3,h4⟩:=h.parts;exact ab4 (by decide) h1 h2 h3 h.pos h.Gy lY ht hr
def gR.first(h:gR x vs n v1 v2 u0 u1 u2):dv x/dv vs<=(u0*1000000000+u1)/v1:=by
 have⟨p,vr,ur,h1,h2,h3,h4⟩:=h.parts;exact TQ h1 h3 h4 h.Ot h.pos
def gR.top(h:gR x vs n v1 v2 u0 u1 u2):u0<=v1:=by
 have⟨p,vr,ur,h1,h2,h3,h4⟩:=h.parts;exact ab5 h1 h3 h2 h.Gy h.lt
def gR.digit(h:gR x vs n v1 v2 u0 u1 u2):dv x/dv vs<1000000000:=by
 refine (xM ?_).2 h.lt;rcases xv (dv vs) with h0 | h0
 .have:=h.lt;rw[h0] at this;simp at this
 .exact h0
def gR.small(h:gR x vs n v1 v2 u0 u1 u2)(ht:t*v1+r=u0*1000000000+u1)(hb:1000000000<=t):r<1000000000:=by
 have h1:=h.top;have h2:=h.Oq;have h3:=yQ v1 hb
 grind
end
def aAb{u:Nat}(hr:r<1000000000)(hu:u<1000000000):r*1000000000<9223372036854775808/\r*1000000000+u<9223372036854775808:=by lia
def arW{w:AV}{x:List Int}{f:Int}(hw:bh w vs){n v1 v2 u0 u1 u2 M:Nat}(hl:gR x vs n v1 v2 u0 u1 u2)(hM:M=pre.length+x.length+post.length)(OE:M<=50000000000):
  bP P L [0,1,2,7,9,10] C4 (fun k s=>∃t r:Nat,s=⟨[(0,.aq 1 0 M),(1,w),(2,aa pre.length),(7,aa n),(9,aa t),(10,aa r)],H3 qs (pre++x++post) f,3,3⟩/\t*v1+r=u0*1000000000+u1/\r<1000000000/\dv x/dv vs<=t/\t=k) (fun ex s'=>∃tm ct t,s'=⟨tm,H3 qs (pre++x++post) f,ct,3⟩/\((ex=.exit 0/\ai tm 9=aa (t:Nat))\/(ex=.ret/\ai tm 6=aa (t:Nat)))/\ct=3/\t<1000000000/\dv x/dv vs<=t/\t<=dv x/dv vs+1):=by
 apply bQ;rintro k s ⟨t,r,rfl,ht,hr,hQ,rfl⟩;have dh:=hl.n2;have od:=hl.nb;have hlx:=hl.lx;have IM:=hl.Oo;have Xq:=hl.Gy;have ag3:=hl.Ot;have aAc:=hl.u0W;have Sd:=hl.Oq;have qh:=hl.pos;have sN:=zo hw (i:=n-2) (by have:=hl.lv;lia)
 have fD:=zo hw (i:=n-1) (by have:=hl.lv;lia)
 rw[hl.de] at sN;rw[hl.fC] at fD;have A9:=Aw (l:=pre++x++post) (o:=pre.length+(n-2)) (by rw[pT];lia)
 rw[C9 (by lia),hl.h2] at A9;have Cn:(n:Int)-2=((n-2:Nat):Int):=by lia
 have sO:(n:Int)-1=((n-1:Nat):Int):=by lia
 have OF:(pre.length:Int)+(n:Int)=((pre.length+n:Nat):Int):=rfl;have ZK:((pre.length+n:Nat):Int)-2=((pre.length+(n-2):Nat):Int):=by lia
 have aEz:t<=1000000000000000000:=by
  have:=xa t qh
  lia
 have aEA:t*1<=t*v1:=xa t qh;have⟨ZL,ZM⟩:=aAb hr ag3;by_cases A5:1000000000<=t\/r*1000000000+u2<t*v2
 .have ht0:0<t:=by
   rcases xv t with h0 | h0
   .subst h0;lia
   .exact h0
  have h1:(t-1)*v1+(r+v1)=u0*1000000000+u1:=by
   obtain⟨p,rfl⟩:∃p,t=p+1:=⟨t-1,by lia⟩;rw[wg,Nat.one_mul] at ht;rw[Nat.add_sub_cancel];lia
  have Gz:dv x/dv vs<=t-1:=by
   rcases A5 with h | h
   .have:=hl.digit;generalize dv x/dv vs=q at*;lia
   .exact hl.down ht h
  have Tn:((t:Nat):Int)-1=((t-1:Nat):Int):=by lia
  have stop:1000000000<=r+v1->t-1<1000000000/\t-1<=dv x/dv vs+1:=fun hb=>by
   have aH:t-1<1000000000:=by
    by_cases AU:1000000000<=t-1
    .have:=hl.small h1 AU;lia
    .lia
   exact⟨aH,hl.stop aH h1 (.inl hb)⟩
  by_cases hb:1000000000<=t
  .by_cases lU:1000000000<=r+v1
   .right
    have⟨s1,s2⟩:=stop lU
    simp only[go_sem,ya,C4,H3,show (1000000000:Int)<=(t:Int) by lia,Tn,wrapN (n:=t-1) (by lia),sO,wrapN (n:=n-1) (by lia),fD,show (r:Int)+(v1:Int)=((r+v1:Nat):Int) from rfl,wrapN (n:=r+v1) (by lia),show (1000000000:Int)<=((r+v1:Nat):Int) by lia];exact⟨_,_,rfl,by simp,_,_,t-1,rfl,.inr ⟨rfl,rfl⟩,rfl,s1,Gz,s2⟩
   .left
    simp only[go_sem,ya,C4,H3,show (1000000000:Int)<=(t:Int) by lia,Tn,wrapN (n:=t-1) (by lia),sO,wrapN (n:=n-1) (by lia),fD,show (r:Int)+(v1:Int)=((r+v1:Nat):Int) from rfl,wrapN (n:=r+v1) (by lia),show ¬(1000000000:Int)<=((r+v1:Nat):Int) by lia];refine⟨_,t-1,rfl,by lia,t-1,r+v1,?_,h1,by lia,Gz,rfl⟩;rw[PM (by simp only[go_sem,ya,yG,nL,oG,nG,nF,zd hw.pu,wC]) (by simp only[go_sem,ya,yb,yG,mG hw.pu])];simp only[go_sem,ya]
  .have DW:=xF (show t<=999999999 by lia) (show v2<=999999999 by lia);have rZ:r*1000000000+u2<t*v2:=A5.resolve_left hb;obtain⟨m,hm⟩:∃m,t*v2=m:=⟨_,rfl⟩;have em:(t:Int)*(v2:Int)=(m:Int):=by rw[<-hm,xk]
   rw[hm] at rZ DW;have Jk:(r:Int)*1000000000=((r*1000000000:Nat):Int):=by lia
   have D1:((r*1000000000:Nat):Int)+(u2:Int)=((r*1000000000+u2:Nat):Int):=rfl;by_cases lU:1000000000<=r+v1
   .right
    have⟨s1,s2⟩:=stop lU
    simp only[go_sem,ya,yi,C4,H3,show ¬(1000000000:Int)<=(t:Int) by lia,Cn,wrapN (n:=n-2) (by lia),sN,em,wrapN (n:=m) (by lia),Jk,wrapN ZL,OF,wrapN (n:=pre.length+n) (by lia),ZK,wrapN (n:=pre.length+(n-2)) (by lia),dn 1 0 (show pre.length+(n-2)<M by lia),yf,A9,D1,wrapN ZM,show ((r*1000000000+u2:Nat):Int)<(m:Int) from tr.2 rZ,Tn,wrapN (n:=t-1) (by lia),sO,wrapN (n:=n-1) (by lia),fD,show (r:Int)+(v1:Int)=((r+v1:Nat):Int) from rfl,wrapN (n:=r+v1) (by lia),show (1000000000:Int)<=((r+v1:Nat):Int) by lia];exact⟨_,_,rfl,by simp,_,_,t-1,rfl,.inr ⟨rfl,rfl⟩,rfl,s1,Gz,s2⟩
   .left
    simp only[go_sem,ya,yi,C4,H3,show ¬(1000000000:Int)<=(t:Int) by lia,Cn,wrapN (n:=n-2) (by lia),sN,em,wrapN (n:=m) (by lia),Jk,wrapN ZL,OF,wrapN (n:=pre.length+n) (by lia),ZK,wrapN (n:=pre.length+(n-2)) (by lia),dn 1 0 (show pre.length+(n-2)<M by lia),yf,A9,D1,wrapN ZM,show ((r*1000000000+u2:Nat):Int)<(m:Int) from tr.2 rZ,Tn,wrapN (n:=t-1) (by lia),sO,wrapN (n:=n-1) (by lia),fD,show (r:Int)+(v1:Int)=((r+v1:Nat):Int) from rfl,wrapN (n:=r+v1) (by lia),show ¬(1000000000:Int)<=((r+v1:Nat):Int) by lia];refine⟨_,t-1,rfl,by lia,t-1,r+v1,?_,h1,by lia,Gz,rfl⟩;rw[PM (by simp only[go_sem,ya,yG,nL,oG,nG,nF,zd hw.pu,wC]) (by simp only[go_sem,ya,yb,yG,mG hw.pu])];simp only[go_sem,ya]
 .right
  have lY:t<1000000000:=Nat.lt_of_not_le fun e=>A5 (.inl e)
  have DW:=xF (show t<=999999999 from vT lY) (show v2<=999999999 from vT Xq);have XT:t*v2<=r*1000000000+u2:=Nat.le_of_not_lt fun e=>A5 (.inr e)
  have ax7:=hl.stop lY ht (.inr XT);obtain⟨m,hm⟩:∃m,t*v2=m:=⟨_,rfl⟩;have em:(t:Int)*(v2:Int)=(m:Int):=by rw[<-hm,xk]
  rw[hm] at XT DW;have Jk:(r:Int)*1000000000=((r*1000000000:Nat):Int):=by lia
  have D1:((r*1000000000:Nat):Int)+(u2:Int)=((r*1000000000+u2:Nat):Int):=rfl
  simp only[go_sem,ya,yi,C4,H3,show ¬(1000000000:Int)<=(t:Int) by lia,Cn,wrapN (n:=n-2) (by lia),sN,em,wrapN (n:=m) (by lia),Jk,wrapN ZL,OF,wrapN (n:=pre.length+n) (by lia),ZK,wrapN (n:=pre.length+(n-2)) (by lia),dn 1 0 (show pre.length+(n-2)<M by lia),yf,A9,D1,wrapN ZM,show ¬((r*1000000000+u2:Nat):Int)<(m:Int) from fun e=>Nat.not_lt_of_le XT (tr.1 e)];exact⟨_,_,rfl,by simp,_,_,t,rfl,.inl ⟨rfl,rfl⟩,rfl,lY,hQ,ax7⟩
def ax8(h:Has P L 301 BX){w:AV}{x:List Int}{f:Int}(hw:bh w vs){n v1 v2 u0 u1 u2 M:Nat}(hl:gR x vs n v1 v2 u0 u1 u2)(hM:M=pre.length+x.length+post.length)(OE:M<=50000000000):
  ∃t:Nat,jz P L (D P L) (H3 qs (pre++x++post) f) 3 301 [.aq 1 0 M,w,aa pre.length]=GW (aa t,H3 qs (pre++x++post) f,3)/\t<1000000000/\dv x/dv vs<=t/\t<=dv x/dv vs+1:=by
 have dh:=hl.n2;have od:=hl.nb;have hlx:=hl.lx;have Ba:below 3 w:=zd hw.pu;have IM:=hl.Oo;have aAc:=hl.u0W;have Sd:=hl.Oq;have qh:=hl.pos;have fD:=zo hw (i:=n-1) (by have:=hl.lv;lia)
 rw[hl.fC] at fD;have D4:=Aw (l:=pre++x++post) (o:=pre.length+n) (by rw[pT];lia)
 rw[C9 (by lia),hl.h0] at D4;have D5:=Aw (l:=pre++x++post) (o:=pre.length+(n-1)) (by rw[pT];lia)
 rw[C9 (by lia),hl.h1] at D5;have sO:(n:Int)-1=((n-1:Nat):Int):=by lia
 have OF:(pre.length:Int)+(n:Int)=((pre.length+n:Nat):Int):=rfl;have pn1:((pre.length+n:Nat):Int)-1=((pre.length+(n-1):Nat):Int):=by lia
 obtain⟨m,hm⟩:∃m,m=u0*1000000000+u1:=⟨_,rfl⟩;have em:(u0:Int)*1000000000=((u0*1000000000:Nat):Int):=by lia
 have em2:((u0*1000000000:Nat):Int)+(u1:Int)=(m:Int):=by lia
 have fg:=wm m v1;have rX:=xO m qh;have Qp:=hl.first;rw[<-hm] at Qp;have aEP:m/v1<=m:=Nat.div_le_self _ _;have oq:IntKind.wrap .i64 ((m:Int).tdiv (v1:Int))=((m/v1:Nat):Int):=by
  rw[xR (by lia),<-Int.natCast_ediv,wrapN (by lia)]
 have or':(m:Int).tmod (v1:Int)=((m%v1:Nat):Int):=by rw[xH (by lia),<-Int.natCast_emod]
 rw[xz] at fg;generalize m/v1=q0 at*
 generalize m%v1=r0 at*
 have jL:∃ex tm t,D P L BX.body ⟨gi 0 [.aq 1 0 M,w,aa pre.length],H3 qs (pre++x++post) f,3,3⟩=GW (ex,⟨tm,H3 qs (pre++x++post) f,3,3⟩)/\(ex=.normal\/ex=.ret)/\ai tm 6=aa (t:Nat)/\t<1000000000/\dv x/dv vs<=t/\t<=dv x/dv vs+1:=by
  simp only[go_sem,ya,yi,BX,H3,hw.len,hl.lv,OF,wrapN (n:=pre.length+n) (by lia),dn 1 0 (show pre.length+n<M by lia),yf,D4,em,wrapN (n:=u0*1000000000) (by lia),pn1,wrapN (n:=pre.length+(n-1)) (by lia),dn 1 0 (show pre.length+(n-1)<M by lia),D5,em2,wrapN (n:=m) (by lia),sO,wrapN (n:=n-1) (by lia),fD,dl _ _ _ (show (v1:Int)≠0 by lia),fF _ _ _ (show (v1:Int)≠0 by lia),oq,or'];generalize og:D P L (.loop _ C4) _=qq;obtain⟨ex,s,rfl,tm,ct,t,rfl,II,rfl,g1,g2,g3⟩:=aW og (arW (P:=P) (L:=L) (qs:=qs) (f:=f) hw hl hM OE q0) ⟨q0,r0,by
   rw[PM (by simp only[go_sem,ya,yG,nL,oG,nG,nF,Ba,wC]) (by simp only[go_sem,ya,yb,yG,mG hw.pu])]
   simp only[go_sem,ya],by lia,by lia,Qp,rfl⟩
  rcases II with ⟨rfl,h9⟩ | ⟨rfl,h6⟩
  .simp only [go_sem,yG,H3,PM,nL,nG,nF,h9,and_self];exact⟨_,_,t,rfl,.inr rfl,rfl,g1,g2,g3⟩
  .simp only [go_sem];exact⟨_,_,t,rfl,.inr rfl,h6,g1,g2,g3⟩
 have⟨ex,tm,t,g1,g2,g3,g4,g5,g6⟩:=jL;exact⟨t,ad9 h g1 g2 (by show jw _ [RV.t 6]=_;rw[Xi,Wx,g3]),g4,g5,g6⟩
end
section
variable {p t v x z:Int}{post pre qs vs y:List Int}{n:Nat}
def aAd{bo:Int}(ht:0<=t/\t<1000000000)(hv:0<=v/\v<1000000000)(hb:0<=bo/\bo<1000000000):0<=t*v/\t*v<=999999998000000001/\0<=t*v+bo/\t*v+bo<=999999999000000000:=by
 have h1:=tK ht.1 hv.1;have h2:=ybR (show t<=999999999 by lia) (show v<=999999999 by lia) hv.1 (by decide)
 lia
def aAe(hx:0<=x/\x<1000000000)(hp:0<=p/\p<=999999999000000000):
  (x-p.tmod 1000000000<0->0<=x-p.tmod 1000000000+1000000000/\x-p.tmod 1000000000+1000000000<1000000000/\0<=p.tdiv 1000000000+1/\p.tdiv 1000000000+1<1000000000/\x-p.tmod 1000000000+1000000000+p=x+1000000000*(p.tdiv 1000000000+1))/\
  (¬x-p.tmod 1000000000<0->x-p.tmod 1000000000<1000000000/\0<=p.tdiv 1000000000/\p.tdiv 1000000000<1000000000/\x-p.tmod 1000000000+p=x+1000000000*p.tdiv 1000000000):=by grind
def Vv{l:List Int}(h:dg l){i:Nat}(hz:0<=z/\z<1000000000):dg (l.set i z):=Qk h hz
def arX{b q bo Co X Y S:Int}(h2:z+(q*v+bo)=x+b*Co)(h3:Y+q*X=S+p*bo):(Y+p*(z-x))+q*(X+p*v)=S+p*b*Co:=by grind
def arY{w:AV}{x:List Int}{f:Int}(hw:bh w vs){M m:Nat}(lv:vs.length=n)(hM:M=pre.length+(n+1)+post.length)(OE:M<=50000000000)(gv:dg vs)(ht:0<=t/\t<1000000000):
  bP P L [8,9,10,11,12,13,14,15,16] Hy (fun k s=>∃(i:Nat) (bo:Int) (y:List Int),s=⟨[(8,.aq 0 0 1),(9,w),(10,aa n),(11,.aq 1 0 M),(12,.aq 2 0 m),(13,aa pre.length),(14,aa t),(15,aa bo),(16,aa i)],H3 qs (pre++y++post) f,3,0⟩/\i+k=n/\y.length=n+1/\dg y/\(0<=bo/\bo<1000000000)/\
    sv y+t*sv (vs.take i)=sv x+1000000000^i*bo) (fun ex s'=>∃tm bo y,s'=⟨tm,H3 qs (pre++y++post) f,3,0⟩/\ex=.exit 4/\ai tm 8=.aq 0 0 1/\ai tm 9=w/\ai tm 10=aa n/\ai tm 11=.aq 1 0 M/\ai tm 12=.aq 2 0 m/\ai tm 13=aa pre.length/\ai tm 14=aa t/\ai tm 15=aa bo/\y.length=n+1/\dg y/\(0<=bo/\bo<1000000000)/\
    sv y+t*sv vs=sv x+1000000000^n*bo):=by
 apply bQ;rintro k s ⟨i,bo,y,rfl,hk,ly,gy,jT,aO⟩;by_cases hi:i<n
 .left
  have zQ:=iT gv i;have sP:=iT gy i;have ev:=zo hw (i:=i) (by lia);have ey:=Aw (l:=pre++y++post) (o:=pre.length+i) (by rw[pT];lia)
  rw[C9 (by lia)] at ey;have fo:=Qa (l:=vs) i;obtain⟨a,ha⟩:∃a,a=vs.getD i 0:=⟨_,rfl⟩;obtain⟨d,hd⟩:∃d,d=y.getD i 0:=⟨_,rfl⟩;rw[<-ha] at zQ ev fo;rw[<-hd] at sP ey;have⟨p1,p2,p3,p4⟩:=aAd ht zQ jT;have⟨s1,s2⟩:=aAe sP ⟨p3,p4⟩;have eX:(i:Int)+(pre.length:Int)=((pre.length+i:Nat):Int):=by lia
  have aU:=fun (hp:Hp) (ct:Nat) (z:Int)=>Ee (hp:=hp) (ct:=ct) (id:=1) (v:=z) (ex:=ycO) (l:=pre++y++post) (o:=pre.length+i) (by rw[pT];lia)
  have pY:=fun z=>Qq (pre:=pre) (x:=y) (post:=post) (i:=i) z (by lia)
  have aY:=fun z=>H0 (l:=y) (i:=i) (x:=z) (by lia)
  rw[<-hd] at aY;obtain⟨pr,lT⟩:∃pr,pr=t*a+bo:=⟨_,rfl⟩;obtain⟨dm,fg⟩:∃dm,pr.tmod 1000000000=dm:=⟨_,rfl⟩;obtain⟨dq,GC⟩:∃dq,pr.tdiv 1000000000=dq:=⟨_,rfl⟩;have aEQ:0<=dm/\dm<1000000000:=by rw[<-fg,xH (by lia)];lia
  have aER:0<=dq/\dq<1000000000:=by rw[<-GC,xR (by lia)];lia
  rw[<-lT,fg,GC] at s1 s2;have key:∀z Co,z+(t*a+bo)=d+1000000000*Co->sv (y.set i z)+t*sv (vs.take (i+1))=sv x+1000000000^(i+1)*Co:=fun z Co h=>by
   rw[aY,fo,yab];exact arX h aO
  rw[<-lT] at key;by_cases gg:d-dm<0
  .have ⟨q1,q2,q3,q4,q5⟩:=s1 gg;have kk:=key _ _ q5;obtain⟨dr,jS⟩:∃dr,d-dm=dr:=⟨_,rfl⟩;rw[jS] at gg kk q1 q2
   simp only[go_sem,ya,yi,Hy,H3,show (i:Int)<(n:Int) by lia,ev,wrap64 (n:=t*a) (by lia) (by lia),<-lT,wrap64 (n:=pr) (by lia) (by lia),eX,wrapN (n:=pre.length+i) (by lia),dn 1 0 (show pre.length+i<M by lia),yf,ey,fF _ _ _ (show (1000000000:Int)≠0 by decide),dl _ _ _ (show (1000000000:Int)≠0 by decide),fg,GC,jS,wrap64 (n:=dr) (by lia) (by lia),wrap64 (n:=dq) (by lia) (by lia),gg,wrap64 (n:=dr+1000000000) (by lia) (by lia),wrap64 (n:=dq+1) (by lia) (by lia),aU,pY];refine⟨_,k-1,rfl,by lia,i+1,dq+1,y.set i (dr+1000000000),?_,by lia,by simp[ly],Vv gy ⟨q1,q2⟩,⟨q3,q4⟩,kk⟩;rw[wrap64 (by lia) (by lia)];simp only[go_sem,ya,yb,ae,an hw.pu]<;>rfl
  .have ⟨q2,q3,q4,q5⟩:=s2 gg;have kk:=key _ _ q5;obtain⟨dr,jS⟩:∃dr,d-dm=dr:=⟨_,rfl⟩;rw[jS] at gg kk q2
   simp only[go_sem,ya,yi,Hy,H3,show (i:Int)<(n:Int) by lia,ev,wrap64 (n:=t*a) (by lia) (by lia),<-lT,wrap64 (n:=pr) (by lia) (by lia),eX,wrapN (n:=pre.length+i) (by lia),dn 1 0 (show pre.length+i<M by lia),yf,ey,fF _ _ _ (show (1000000000:Int)≠0 by decide),dl _ _ _ (show (1000000000:Int)≠0 by decide),fg,GC,jS,wrap64 (n:=dr) (by lia) (by lia),wrap64 (n:=dq) (by lia) (by lia),gg,aU,pY];refine⟨_,k-1,rfl,by lia,i+1,dq,y.set i dr,?_,by lia,by simp[ly],Vv gy ⟨by lia,q2⟩,⟨q3,q4⟩,kk⟩;rw[wrap64 (by lia) (by lia)];simp only[go_sem,ya,yb,ae,an hw.pu]<;>rfl
 .right
  have:i=n:=by lia
  subst this;rw[yq (by lia)] at aO;simp only[go_sem,ya,Hy,H3,show ¬(i:Int)<(i:Int) by lia];exact⟨_,_,rfl,by simp,_,bo,y,rfl,rfl,rfl,rfl,rfl,rfl,rfl,rfl,rfl,rfl,ly,gy,jT,aO⟩
def arZ{b c c' X Y S:Int}(h2:z+b*c'=x+v+c)(h3:Y+p*c=S+X):(Y+p*(z-x))+p*b*c'=S+(X+p*v):=by grind
def ar0{w:AV}{y0:List Int}{f:Int}(hw:bh w vs){M m:Nat}(lv:vs.length=n)(hM:M=pre.length+(n+1)+post.length)(OE:M<=50000000000)(gv:dg vs){top:Int}:
  bP P L [8,9,10,11,12,13,14,19,20] Lv (fun k s=>∃(i:Nat) (c:Int) (y:List Int),s=⟨[(8,.aq 0 0 1),(9,w),(10,aa n),(11,.aq 1 0 M),(12,.aq 2 0 m),(13,aa pre.length),(14,aa t),(19,aa c),(20,aa i)],H3 qs (pre++y++post) f,3,0⟩/\i+k=n/\y.length=n+1/\dg (y.take n)/\y.getD n 0=top/\(0<=c/\c<=1)/\
    sv y+1000000000^i*c=sv y0+sv (vs.take i)) (fun ex s'=>∃tm c y,s'=⟨tm,H3 qs (pre++y++post) f,3,0⟩/\ex=.exit 6/\ai tm 8=.aq 0 0 1/\ai tm 9=w/\ai tm 10=aa n/\ai tm 11=.aq 1 0 M/\ai tm 12=.aq 2 0 m/\ai tm 13=aa pre.length/\ai tm 14=aa t/\ai tm 19=aa c/\y.length=n+1/\dg (y.take n)/\y.getD n 0=top/\(0<=c/\c<=1)/\
    sv y+1000000000^n*c=sv y0+sv vs):=by
 apply bQ;rintro k s ⟨i,c,y,rfl,hk,ly,gy,pZ,hc,aO⟩;by_cases hi:i<n
 .left
  have zQ:=iT gv i;have sP:=iT gy i;have e0:(y.take n).getD i 0=y.getD i 0:=by
   simp[yU,hi]
  rw[e0] at sP;have ev:=zo hw (i:=i) (by lia);have ey:=Aw (l:=pre++y++post) (o:=pre.length+i) (by rw[pT];lia)
  rw[C9 (by lia)] at ey;have fo:=Qa (l:=vs) i;obtain⟨a,ha⟩:∃a,a=vs.getD i 0:=⟨_,rfl⟩;obtain⟨d,hd⟩:∃d,d=y.getD i 0:=⟨_,rfl⟩;rw[<-ha] at zQ ev fo;rw[<-hd] at sP ey;have eX:(i:Int)+(pre.length:Int)=((pre.length+i:Nat):Int):=by lia
  have aY:=fun z=>H0 (l:=y) (i:=i) (x:=z) (by lia)
  rw[<-hd] at aY;have rX:(d+a+c).tmod 1000000000=(d+a+c)%1000000000:=xH (by lia);have hdiv:(d+a+c).tdiv 1000000000=(d+a+c)/1000000000:=xR (by lia);obtain⟨z,hz⟩:∃z,z=(d+a+c)%1000000000:=⟨_,rfl⟩;obtain⟨c',sL⟩:∃z,z=(d+a+c)/1000000000:=⟨_,rfl⟩;have Yx:z+1000000000*c'=d+a+c:=by lia
  rw[<-hz] at rX;rw[<-sL] at hdiv;have aU:=fun (hp:Hp) (ct:Nat)=>Ee (hp:=hp) (ct:=ct) (id:=1) (v:=z) (ex:=ycO) (l:=pre++y++post) (o:=pre.length+i) (by rw[pT];lia)
  have pY:=Qq (pre:=pre) (x:=y) (post:=post) (i:=i) z (by lia)
  simp only[go_sem,ya,yi,Lv,H3,show (i:Int)<(n:Int) by lia,ev,eX,wrapN (n:=pre.length+i) (by lia),dn 1 0 (show pre.length+i<M by lia),yf,ey,wrap64 (n:=d+a) (by lia) (by lia),wrap64 (n:=d+a+c) (by lia) (by lia),fF _ _ _ (show (1000000000:Int)≠0 by decide),dl _ _ _ (show (1000000000:Int)≠0 by decide),rX,hdiv,wrap64 (n:=c') (by lia) (by lia),aU,pY];refine⟨_,k-1,rfl,by lia,i+1,c',y.set i z,?_,by lia,by simp[ly],?_,by rw[aeJ (by lia)];exact pZ,⟨by lia,by lia⟩,?_⟩
  .rw [wrap64 (by lia) (by lia)];simp only[go_sem,ya,yb,ae,an hw.pu]<;>rfl
  .rw [yaA];exact Vv gy ⟨by lia,by lia⟩
  .rw [aY,fo,yab];exact arZ Yx aO
 .right
  have:i=n:=by lia
  subst this;rw[yq (show vs.length<=i by lia)] at aO;simp only[go_sem,ya,Lv,H3,show ¬(i:Int)<(i:Int) by lia];exact⟨_,_,rfl,by simp,_,c,y,rfl,rfl,rfl,rfl,rfl,rfl,rfl,rfl,rfl,rfl,ly,gy,pZ,hc,aO⟩
def ar1{A V t:Nat}(hV:0<V)(ly:y.length=n+1)(gy:dg (y.take n))(h:sv y=(A:Int)-t*V)(h1:A/V<=t)(h2:t<=A/V+1):
  (¬y.getD n 0<0->t=A/V/\sv y=((A%V:Nat):Int))/\(y.getD n 0<0->t=A/V+1/\sv y+V=((A%V:Nat):Int)):=by
 have fg:=wm A V;have hm:=xO A hV;have fo:=Qa (l:=y) n;rw[yq (by lia),BL gy] at fo;have Ny:=kR gy;have hp:(0:Int)<1000000000^n:=ycB (by decide);generalize y.getD n 0=top at*
 generalize A/V=Q at*
 have hq:t=Q\/t=Q+1:=by lia
 constructor
 .intro h0;have h3:0<=(1000000000:Int)^n*top:=tK (tu hp) (by lia);rcases hq with rfl | rfl
  .grind
  .grind
 .intro h0;have h3:(1000000000:Int)^n*top<=-(1000000000^n):=by
   have:=wY (show top<=-1 by lia) (tu hp)
   grind
  rcases hq with rfl | rfl
  .grind
  .grind
def adl(ly:y.length=n+1)(gy:dg (y.take n))(h0:0<=sv y)(h1:sv y<1000000000^n):y.getD n 0=0/\dg y/\sv y=dv y:=by
 have fo:=Qa (l:=y) n;rw[yq (by lia),BL gy] at fo;have Ny:=kR gy;rw[yO,xA (by lia)] at Ny;have hp:(0:Int)<1000000000^n:=ycB (by decide);have Ig:((1000000000^n:Nat):Int)=(1000000000:Int)^n:=by simp
 have aEB:(dv (y.take n):Int)<1000000000^n:=by lia
 have ht:y.getD n 0=0:=by
  generalize y.getD n 0=top at*
  rcases yaa top 0 with h | h | h
  .have:=wY (show top<=-1 by lia) (tu hp)
   grind
  .grind
  .have:=wY (show 1<=top by lia) (tu hp)
   grind
 have hg:dg y:=by
  have e:y=y.take n++[0]:=by
   have h1:y=y.take n++y.drop n:=(wc n y).symm;have h2:y.drop n=[0]:=by
    rw[yT (by lia),yZ (by lia)]
    grind
   grind
  rw[e];exact iF.2 ⟨gy,me.2 ⟨by decide,by decide⟩⟩
 exact⟨ht,hg,BL hg⟩
end
def ar2{l:List Int}{i:Nat}(h:i<l.length):dv (l.drop i)=(l.getD i 0).toNat+1000000000*dv (l.drop (i+1)):=by
 rw[yT h]
 have:l[i]=l.getD i 0:=by simp_all
 rw[this];rfl
def U2(l:List Int)(i:Nat)(h:i<=l.length):dv l=dv (l.take i)+1000000000^i*dv (l.drop i):=by
 conv=>lhs;rw[<-wc i l]
 rw[nE,yO,xA h]
def ar3{sx sy sV:Int}{p:Int}{bo t:Int}{yn z:Int}{szy:Int}(h1:sy+t*sV=sx+p*bo)(h2:szy=sy+p*(z-yn))(h3:z=yn-bo):szy=sx-t*sV:=by grind
def ar4(zB:Has P L 301 BX){w:AV}{vs:List Int}{f:Int}(hw:bh w vs)(gv:dg vs){n M m:Nat}(lv:vs.length=n)(dh:2<=n)(hnM:n<M)(OE:M<=20000000000)(hm:m=M-n)(fC:0<vs.getD (n-1) 0){U0:Nat}:
  bP P L [8,9,10,11,12,13] Lw (fun k st=>∃(j:Nat) (us qs:List Int),st=⟨[(8,.aq 0 0 1),(9,w),(10,aa n),(11,.aq 1 0 M),(12,.aq 2 0 m),(13,aa ((j:Int)-1))],H3 qs us f,3,0⟩/\j=k/\j<=m/\us.length=M/\qs.length=m/\dg us/\dg qs/\(∀i,i<j->qs.getD i 0=0)/\
    dv us+dv qs*dv vs=U0/\dv (us.drop j)<dv vs) (fun ex st'=>∃tm us qs,st'=⟨tm,H3 qs us f,3,0⟩/\ex=.exit 2/\ai tm 8=.aq 0 0 1/\ai tm 10=aa n/\ai tm 11=.aq 1 0 M/\ai tm 12=.aq 2 0 m/\us.length=M/\qs.length=m/\dg us/\dg qs/\
    dv us+dv qs*dv vs=U0/\dv us<dv vs):=by
 apply bQ;rintro k st ⟨j,us,qs,rfl,rfl,hj,lu,lq,gu,gq,hz,aO,pZ⟩
 cases j with
 | zero=>
  right
  simp only[go_sem,ya,Lw,H3,show ¬(0:Int)<=((0:Nat):Int)-1 by lia];exact⟨_,_,rfl,by simp,_,us,qs,rfl,rfl,rfl,rfl,rfl,rfl,lu,lq,gu,gq,aO,by simpa using pZ⟩
 | succ j=>
  left
  obtain⟨pre,eX⟩:∃p,p=us.take j:=⟨_,rfl⟩;obtain⟨x,hx⟩:∃p,p=(us.drop j).take (n+1):=⟨_,rfl⟩;obtain⟨post,fV⟩:∃p,p=us.drop (j+(n+1)):=⟨_,rfl⟩;have lp:pre.length=j:=by rw[eX,yO];lia
  have lx:x.length=n+1:=by rw[hx,yO,xX];lia
  have lpo:M=pre.length+(n+1)+post.length:=by rw[lp,fV,xX];lia
  have lG:us=pre++x++post:=by
   rw[eX,hx,fV,<-vd,xJ,wc,wc]
  have gpo:dg post:=by
   have:=gu;rw[lG] at this;exact (iF.1 this).2
  have gpx:=by have:=gu;rw[lG] at this;exact (iF.1 this).1
  have gx:dg x:=(iF.1 gpx).2;have Xt:dg pre:=(iF.1 gpx).1;have hA:=ar2 (l:=us) (i:=j) (by lia);have hgj:=iT gu j;have Zn:us.drop j=x++post:=by rw[fV,hx,<-vd,wc]
  have Cp:dv (us.drop j)=dv x+1000000000^(n+1)*dv post:=by rw[Zn,nE,lx]
  have Ou:=kR gv;rw[lv] at Ou;have aH:dv (us.drop j)<1000000000*dv vs:=by lia
  have hp0:dv post=0:=by
   rcases xv (dv post) with e | e
   .exact e
   .have h1:=xa (1000000000^(n+1)) e;rw[yi,xt] at h1;rw[xt] at Cp
    lia
  rw[hp0,xI,xd] at Cp;have OG:=fun (l:List Int) (hl:dg l) (i:Nat)=>iT hl i
  obtain⟨v1,fD⟩:∃v:Nat,vs.getD (n-1) 0=v:=⟨(vs.getD (n-1) 0).toNat,by have:=OG vs gv (n-1);lia⟩
  obtain⟨v2,sN⟩:∃v:Nat,vs.getD (n-2) 0=v:=⟨(vs.getD (n-2) 0).toNat,by have:=OG vs gv (n-2);lia⟩
  obtain⟨u0,D4⟩:∃v:Nat,x.getD n 0=v:=⟨(x.getD n 0).toNat,by have:=OG x gx n;lia⟩
  obtain⟨u1,D5⟩:∃v:Nat,x.getD (n-1) 0=v:=⟨(x.getD (n-1) 0).toNat,by have:=OG x gx (n-1);lia⟩
  obtain⟨u2,A9⟩:∃v:Nat,x.getD (n-2) 0=v:=⟨(x.getD (n-2) 0).toNat,by have:=OG x gx (n-2);lia⟩
  have hl:gR x vs n v1 v2 u0 u1 u2:=⟨dh,by lia,lx,lv,gx,gv,fD,sN,D4,D5,A9,by lia,by rw[<-Cp];exact aH⟩
  have Se:=hl.digit;have zO:0<dv vs:=by lia
  have rX:=xO (dv x) zO;have⟨t,e1,ht1,YN,ht3⟩:=ax8 (P:=P) (L:=L) zB hw hl (pre:=pre) (post:=post) (qs:=qs) (f:=f) (M:=M) (by lia) (by lia);rw[<-lG,lp] at e1;have Zp:dv us=dv pre+1000000000^j*dv x:=by
   have:=U2 us j (by lia)
   rw[Cp,<-eX] at this;exact this
  have Xu:∀y,dv (pre++y++post)=dv pre+1000000000^j*dv y:=fun y=>by
   rw[xJ,nE,nE,hp0,xI,xd,lp]
  have dd:=ace (b:=0) Zp aO;have Ba:below 3 w:=zd hw.pu;have aY:=H0 (l:=qs) (i:=j) (x:=((dv x/dv vs:Nat):Int)) (by lia);have gq':dg (qs.set j ((dv x/dv vs:Nat):Int)):=Qk gq ⟨yat _,tr.2 Se⟩;rw[hz j (by lia),Int.sub_zero,BL gq,BL gq'] at aY;have aY:dv (qs.set j ((dv x/dv vs:Nat):Int))=dv qs+1000000000^j*(dv x/dv vs):=by
   have Ig:((1000000000^j*(dv x/dv vs):Nat):Int)=(1000000000:Int)^j*((dv x/dv vs:Nat):Int):=by rw[xk];simp
   rw[<-Ig] at aY;exact yai (by rw[yaZ,yaZ,aY,uZ])
  have fin:∀(s':St) (x':List Int),bq [8,9,10,11,12,13] s'=⟨[(8,.aq 0 0 1),(9,w),(10,aa n),(11,.aq 1 0 M),(12,.aq 2 0 m),(13,aa ((j:Int)-1))],H3 (qs.set j ((dv x/dv vs:Nat):Int)) (pre++x'++post) f,3,0⟩->x'.length=n+1->dg x'->sv x'=((dv x%dv vs:Nat):Int)->
    ∃(j':Nat) (us qs:List Int),bq [8,9,10,11,12,13] s'=⟨[(8,.aq 0 0 1),(9,w),(10,aa n),(11,.aq 1 0 M),(12,.aq 2 0 m),(13,aa ((j':Int)-1))],H3 qs us f,3,0⟩/\j'=j/\j'<=m/\us.length=M/\qs.length=m/\dg us/\dg qs/\(∀i,i<j'->qs.getD i 0=0)/\dv us+dv qs*dv vs=U0/\dv (us.drop j')<dv vs:=fun s' x' hc Zo S8 Ox=>by
   have ahv:dv x'=dv x%dv vs:=by rw[BL S8] at Ox;exact yai Ox
   refine⟨j,_,_,hc,rfl,by lia,by rw[pT,Zo];lia,by simp[lq],iF.2 ⟨iF.2 ⟨Xt,S8⟩,gpo⟩,gq',fun i hi=>by rw[aeJ (by lia)];exact hz i (by lia),?_,?_⟩
   .rw [Xu,ahv,aY];exact dd
   .rw [xJ,List.drop_left' lp,nE,hp0,xI,xd,ahv];exact rX
  have ahw:=fun (z:Int) (hp:Hp) (ct:Nat)=>Ee (hp:=hp) (ct:=ct) (id:=2) (v:=z) (ex:=ycN) (l:=qs) (o:=j) (by lia)
  have svx:=BL gx;have svv:=BL gv;simp only[H3] at e1;simp only[go_sem,ya,Lw,H3,show ((j+1:Nat):Int)-1=(j:Int) by lia,show (0:Int)<=(j:Int) by lia,af0,e1];generalize og:D P L (.loop _ Hy) _=qq;obtain⟨ex,s,rfl,tm,bo,y,rfl,rfl,t8,t9,t10,t11,t12,t13,t14,t15,ly,gy,jT,hv⟩:=aW og (arY (P:=P) (L:=L) (x:=x) (pre:=pre) (post:=post) (qs:=qs) (f:=f) (m:=m) (M:=M) hw lv lpo (by lia) gv (t:=t) (by lia) n) ⟨0,0,x,by
   rw[lG,lp]
   simp only[go_sem,ya,yb,ae,an hw.pu]<;>rfl,by lia,lx,gx,by lia,by simp[sv]⟩
  rw[lp] at t13;have hyn:=iT gy n;have ZN:=Aw (l:=pre++y++post) (o:=pre.length+n) (by rw[pT];lia)
  rw[C9 (by lia),lp] at ZN;obtain⟨z,ZO⟩:∃z,z=y.getD n 0-bo:=⟨_,rfl⟩;have Im:=fun (hp:Hp) (ct:Nat)=>Ee (hp:=hp) (ct:=ct) (id:=1) (v:=z) (ex:=ycO) (l:=pre++y++post) (o:=j+n) (by rw[pT];lia)
  have pY:=Qq (pre:=pre) (x:=y) (post:=post) (i:=n) z (by lia);rw[lp] at pY;rw[pY] at Im;have nn:=H0 (l:=y) (i:=n) (x:=z) (by lia);have Ri:=ar3 hv nn ZO;have D2:(y.set n z).length=n+1:=by simp[ly]
  have zR:dg ((y.set n z).take n):=by
   have:(y.set n z).take n=y.take n:=by rw[yaA,yax (by simp;lia)]
   rw[this];exact EG gy n
  rw[svx,svv] at Ri;have⟨s0,s1⟩:=ar1 zO D2 zR Ri YN ht3;have eg:(y.set n z).getD n 0=z:=anG (by lia);rw[eg] at s0 s1;have ZP:=Aw (l:=pre++y.set n z++post) (o:=pre.length+n) (by rw[pT];lia)
  rw[C9 (by lia),lp,eg] at ZP;generalize y.set n z=y1 at*
  have hpn:((10^9:Int))=1000000000:=by decide
  by_cases gg:z<0
  .have ⟨f1,f2⟩:=s1 gg
   simp only[go_sem,ya,yb,yi,ae,an hw.pu,t8,t9,t10,t11,t12,t13,t14,t15,show (j:Int)+(n:Int)=((j+n:Nat):Int) from rfl,wrapN (n:=j+n) (by lia),dn 1 0 (show j+n<M by lia),yf,ZN,<-ZO,wrap64 (n:=z) (by lia) (by lia),Im,ZP,gg];generalize F2:D P L (.loop _ Lv) _=Zh;obtain⟨ex,s,rfl,sG,c,y2,rfl,rfl,t8,t9,t10,t11,t12,t13,t14,t19,Zj,D3,af5,hc,de⟩:=aW F2 (ar0 (P:=P) (L:=L) (y0:=y1) (pre:=pre) (post:=post) (qs:=qs) (f:=f) (m:=m) (M:=M) (t:=(t:Int)-1) (top:=z) hw lv lpo (by lia) gv n) ⟨0,0,y1,by
    rw[lp,wrap64 (n:=(t:Int)-1) (by lia) (by lia)]
    simp only[go_sem,ya,yb,ae,an hw.pu]<;>rfl,by lia,D2,zR,eg,by lia,by simp[sv]⟩
   rw[lp] at t13;have ahx:=Aw (l:=pre++y2++post) (o:=pre.length+n) (by rw[pT];lia)
   rw[C9 (by lia),lp,af5] at ahx;have Sc:=fun (hp:Hp) (ct:Nat)=>Ee (hp:=hp) (ct:=ct) (id:=1) (v:=z+c) (ex:=ycO) (l:=pre++y2++post) (o:=j+n) (by rw[pT];lia)
   have QR:=Qq (pre:=pre) (x:=y2) (post:=post) (i:=n) (z+c) (by lia);rw[lp] at QR;rw[QR] at Sc;have zL:=H0 (l:=y2) (i:=n) (x:=z+c) (by lia);rw[af5,show z+c-z=c by lia,de,svv,f2] at zL;have Ov:(y2.set n (z+c)).length=n+1:=by simp[Zj]
   have S7:dg ((y2.set n (z+c)).take n):=by
    have:(y2.set n (z+c)).take n=y2.take n:=by rw[yaA,yax (by simp;lia)]
    rw[this];exact D3
   have ZQ:((dv x%dv vs:Nat):Int)<1000000000^n:=by
    have Ig:((1000000000^n:Nat):Int)=(1000000000:Int)^n:=by simp
    rw[<-Ig];lia
   have⟨g1,g2,g3⟩:=adl Ov S7 (by rw[zL];lia) (by rw[zL];exact ZQ)
   generalize y2.set n (z+c)=y3 at*
   have ft:(t:Int)-1=((dv x/dv vs:Nat):Int):=by rw[f1];lia
   simp only[go_sem,ya,yb,yi,ae,an hw.pu,t8,t9,t10,t11,t12,t13,t14,t19,show (j:Int)+(n:Int)=((j+n:Nat):Int) from rfl,wrapN (n:=j+n) (by lia),dn 1 0 (show j+n<M by lia),yf,ahx,wrap64 (n:=z+c) (by lia) (by lia),Sc,dn 2 0 (show j<m by lia),ahw];rw[ft];refine⟨_,j,rfl,by lia,fin _ y3 ?_ Ov g2 zL⟩;rw[wrap64 (by lia) (by lia)];simp only[go_sem,ya,yb,ae,an hw.pu]<;>rfl
  .have ⟨f1,f2⟩:=s0 gg;have ZQ:((dv x%dv vs:Nat):Int)<1000000000^n:=by
    have Ig:((1000000000^n:Nat):Int)=(1000000000:Int)^n:=by simp
    rw[<-Ig];lia
   have⟨g1,g2,g3⟩:=adl D2 zR (by rw[f2];lia) (by rw[f2];exact ZQ)
   simp only[go_sem,ya,yb,yi,ae,an hw.pu,t8,t9,t10,t11,t12,t13,t14,t15,show (j:Int)+(n:Int)=((j+n:Nat):Int) from rfl,wrapN (n:=j+n) (by lia),dn 1 0 (show j+n<M by lia),yf,ZN,<-ZO,wrap64 (n:=z) (by lia) (by lia),Im,ZP,gg,dn 2 0 (show j<m by lia),ahw];rw[f1];refine⟨_,j,rfl,by lia,fin _ y1 ?_ D2 g2 f2⟩;rw[wrap64 (by lia) (by lia)];simp only[go_sem,ya,yb,ae,an hw.pu]<;>rfl
def avv(h:Has P L 292 BW){n:Nat}(hn:n<1000000000):af P L 292 [aa n,aa 9] (.str (jk 9 n)):=by
 have key:=fk P L [0,1,5] pP
  (fun k st=>∃(m:Nat) (s:List Nat),st=⟨[(0,aa m),(1,aa 9),(5,.str s)],[],0,0⟩/\s.length+k=9/\m<10^k/\jk 9 n=jk k m++s)
  (fun ex st=>∃tm ct,st=⟨tm,[],ct,0⟩/\ex=.exit 0/\ai tm 5=.str (jk 9 n)) ?_
 .unfold af;rw[aF h];simp only[go_sem,BW];generalize hq:D P L (.loop _ pP) _=q;obtain⟨ex,st,rfl,tm,ct,rfl,rfl,h2⟩:=aW hq (key 9) ⟨n,[],by simp only[go_sem,ya,ae]<;>rfl,rfl,by lia,by simp⟩
  simp only[go_sem,ae,h2]
 .rintro k st ⟨m,s,rfl,hk,hm,hs⟩
  cases k with
  | zero=>
   right
   have sR:m=0:=by simpa using hm
   subst sR;simp only[go_sem,ya,pP,show ¬(0:Int)<((0:Nat):Int) by lia,show ¬((s.length:Nat):Int)<9 by lia];refine⟨_,_,rfl,by simp,_,_,rfl,rfl,?_⟩;rw[hs];rfl
  | succ k=>
   left
   have hr:((m:Int)).tmod 10=((m%10:Nat):Int):=by rw[xH (by lia)];rfl
   have hq:((m:Int)).tdiv 10=((m/10:Nat):Int):=by rw[xR (by lia)];rfl
   have hd:=abm (r:=m%10) (by lia);have NU:m<10000000000:=yR hm (by simpa using xe (show 0<10 by decide) (show k+1<=10 by lia));have fin:∃s',D P L pP ⟨[(0,aa m),(1,aa 9),(5,.str s)],[],0,0⟩=GW (.normal,s')/\bq [0,1,5] s'=⟨[(0,aa (m/10:Nat)),(1,aa 9),(5,.str ([48+m%10]++s))],[],0,0⟩:=by
    by_cases hc:(0:Int)<m
    .simp only [go_sem,ya,yb,pP,hc,fF _ _ _ (show (10:Int)≠0 by decide),dl _ _ _ (show (10:Int)≠0 by decide),hr,hq,wrapN (n:=m%10+1) (by lia),wrap64 (n:=((m/10:Nat):Int)) (by lia) (by lia),eZ,dU,show ((m%10:Nat):Int)+1=((m%10+1:Nat):Int) from rfl,hd,ik (a:=[48+m%10]) (b:=s) (by simp;lia)]
     exact⟨_,rfl,by simp only[go_sem,ya,ae]⟩
    .simp only [go_sem,ya,yb,pP,hc,show ((s.length:Nat):Int)<9 by lia,fF _ _ _ (show (10:Int)≠0 by decide),dl _ _ _ (show (10:Int)≠0 by decide),hr,hq,wrapN (n:=m%10+1) (by lia),wrap64 (n:=((m/10:Nat):Int)) (by lia) (by lia),eZ,dU,show ((m%10:Nat):Int)+1=((m%10+1:Nat):Int) from rfl,hd,ik (a:=[48+m%10]) (b:=s) (by simp;lia)]
     exact⟨_,rfl,by simp only[go_sem,ya,ae]⟩
   have⟨s',f1,f2⟩:=fin;exact⟨s',k,f1,by lia,m/10,_,f2,by simp;lia,by rw[xt] at hm;lia,by rw[hs];simp[jk]⟩
def last_pos{l:List Int}(hd:dg l)(hn:nz l)(h:0<l.length):0<l.getD (l.length-1) 0:=by
 rcases snoc l with rfl | ⟨m,a,rfl⟩
 .grind
 .have e:(m++[a]).getD ((m++[a]).length-1) 0=a:=by simp_all
  have ha:=me.1 (iF.1 hd).2;by_cases h0:a=0
  .subst h0
   have:=Pr m
   have e:=congrArg tY hn;rw[Ky] at e
   grind
  .lia
def avw(rV:Has P L 292 BW){neg:Bool}{w:AV}{l:List Int}(hw:bh w l)(hd:dg l)(hn:nz l)(hl:l.length<=20000000000):
  bP P L [1,3,4] Lt (fun k s=>∃(j:Nat) (t:List Nat),s=⟨[(1,.ptr 0 0),(3,.str t),(4,aa ((j:Int)-1))],[(0,.cells ycN ycN ycN 2 [.bool neg,w])],1,0⟩/\j=k/\j<l.length/\0<dv (l.drop j)/\t=aC (dv (l.drop j))/\t.length<=9*(l.length-j)) (fun ex s'=>∃tm,s'=⟨tm,[(0,.cells ycN ycN ycN 2 [.bool neg,w])],1,0⟩/\ex=.exit 0/\ai tm 1=.ptr 0 0/\ai tm 3=.str (aC (dv l))/\(aC (dv l)).length<=180000000000):=by
 apply bQ;rintro k s ⟨j,t,rfl,rfl,hj,qh,ht,ZH⟩
 cases j with
 | zero=>
  right
  rw[yg] at ht;simp only[go_sem,ya,Lt,show ¬(0:Int)<=((0:Nat):Int)-1 by lia];exact⟨_,_,rfl,by simp,_,rfl,rfl,rfl,by rw[<-ht];simp only[go_sem,ya],by rw[<-ht];lia⟩
 | succ i=>
  left
  have hi:i<l.length:=by lia
  obtain⟨x,hx⟩:∃x,x=l.getD i 0:=⟨_,rfl⟩;have e1:=zo hw hi;have gx:=iT hd i;rw[<-hx] at e1 gx;obtain⟨m,rfl⟩:∃m:Nat,x=m:=⟨x.toNat,by lia⟩;have e2:=avv rV (n:=m) (by lia);unfold af at e2;have hlp:=UX 9 m;have jS:dv (l.drop i)=dv (l.drop (i+1))*10^9+m:=by
   have:l.drop i=(m:Int)::l.drop (i+1):=by
    rw[yT hi,hx];simp[yU,xf hi]
   rw[this];simp only[dv,wa];lia
  have aAf:aC (dv (l.drop i))=t++jk 9 m:=by
   rw[jS,PI 9 _ m qh (by lia),ht]
  simp only[go_sem,ya,Lt,show ((i+1:Nat):Int)-1=(i:Int) by lia,show (0:Int)<=(i:Int) by lia,bH,yf,du,e1,e2,ik (a:=t) (b:=jk 9 m) (by lia)];refine⟨_,i,rfl,by lia,i,t++jk 9 m,?_,rfl,by lia,by lia,aAf.symm,by simp;lia⟩
  rw[wrap64 (by lia) (by lia)];simp only[go_sem,ya,yb,ae]<;>rfl
def XU(h:Has P L 282 M4)(rV:Has P L 292 BW){v:AV}{n:Int}{K:Nat}(hK:K<=18000000000)(hv:lk v n)(hn:n.natAbs<1000000000^K):af P L 282 [v] (.str (aV n))/\(aV n).length<=180000000001:=by
 obtain⟨w,l,rfl,hw,hd,hz,sQ⟩:=hv;have hl:=xn (kj hd hz (by rw[sQ];exact hn)) hK
 by_cases h0:l=[]
 .subst h0;have jq:n=0:=by simp[dv] at sQ;lia
  subst jq;refine⟨?_,by decide⟩;unfold af;rw[aF h];simp only[go_sem,ya,yb,M4,aR,hw.len,hw.pu,hw.one,bH,yf,du,yN,show ((0:Nat):Int)=(0:Int) from rfl,yy];rfl
 .have qh:0<l.length:=uX.2 h0;obtain⟨x,hx⟩:∃x,x=l.getD (l.length-1) 0:=⟨_,rfl⟩;have e1:=zo hw (show l.length-1<l.length by lia);have gx:=iT hd (l.length-1);have gp:=last_pos hd hz qh;rw[<-hx] at e1 gx gp;obtain⟨m,rfl⟩:∃m:Nat,x=m:=⟨x.toNat,by lia⟩;have e2:=Xn rV (n:=m) (by lia);have jS:dv (l.drop (l.length-1))=m:=by
   rw[yT (show l.length-1<l.length by lia),yZ (by lia)]
   have:l[l.length-1]=(m:Int):=by rw[hx];simp[yU,xf (show l.length-1<l.length by lia)]
   simp[dv,this]
  have h9:(aC m).length<=9:=Ae (k:=8) (by lia);have fin:∀neg:Bool,bS P L (D P L) 282 [.agg [.bool neg,w]]=GW (.str ((if neg=ycN then [45] else [])++aC (dv l)))/\(aC (dv l)).length<=180000000000:=fun neg=>by
   rw[aF h]
   simp only[go_sem,ya,yb,M4,aR,hw.len,hw.pu,hw.one,bH,yf,du,show ¬(l.length:Int)=0 by lia,show (l.length:Int)-1=((l.length-1:Nat):Int) by lia,wrapN (n:=l.length-1) (by lia),e1,e2];generalize hq:D P L (.loop _ Lt) _=q;obtain⟨ex,s,rfl,tm,rfl,rfl,t1,t3,hlen⟩:=aW hq (avw (P:=P) (L:=L) rV (neg:=neg) hw hd hz (by lia) (l.length-1)) ⟨l.length-1,aC m,by
    rw[show (l.length:Int)-2=((l.length-1:Nat):Int)-1 by lia,wrap64 (by lia) (by lia)]
    simp only[go_sem,ya,yb,ae]<;>rfl,rfl,by lia,by rw[jS];lia,by rw[jS],by lia⟩
   refine⟨?_,hlen⟩
   cases neg with
   | true=>
    simp only[go_sem,ya,ae,t1,t3,bH,yf,ik (a:=[45]) (b:=aC (dv l)) (by simp;lia),xS]
   | false=>
    simp only[go_sem,ya,ae,t1,t3,bH,yf];rfl
  have⟨f1,f2⟩:=fin (decide (n<0));rw[sQ] at f1 f2;simp only[tC] at f1;rw[pE] at f1;refine⟨f1,?_⟩;rw[<-pE]
  split<;>simp<;>lia
structure Rb(P:aG)(L:Lib):Prop where
 aAg:Has P L 262 MY
 Dv:Has P L 272 M3
 ahy:Has P L 274 RG
 ahz:Has P L 275 RH
 aAh:Has P L 277 FU
 aAi:Has P L 280 pX
 ahA:Has P L 281 RJ
 XV:Has P L 282 M4
 ahB:Has P L 288 RN
 NA:Has P L 289 AE
 BY:Has P L 290 Iw
 Xo:Has P L 291 M6
 rV:Has P L 292 BW
 my:Has P L 293 Dp
 jl:Has P L 294 Dq
 XS:Has P L 295 M7
 qg:Has P L 296 AF
 ahC:Has P L 298 RO
 rY:Has P L 299 Dr
 cR:Has P L 300 nc
 oP:Has P L 302 AG
structure Ras(P:aG)(L:Lib):Prop extends Rb P L where
 ahD:Has P L 264 MZ
 aAj:Has P L 268 M1
 aAk:Has P L 271 Xb
 aAl:Has P L 276 rR
 NB:Has P L 278 RI
 aAm:Has P L 279 Iv
 Sm:Has P L 297 M8
structure Ra(P:aG)(L:Lib):Prop extends Ras P L where
 ahE:Has P L 267 M0
section
variable {v w:AV}{a b:List Int}
def ar5{vs:List Int}{f:Int}(hv:bh v a)(hw:bh w vs){n:Nat}(la:a.length<=9000000000){A:Nat}:
  bP P L [0,8,9,10,11] Lu (fun k st=>∃us:List Int,st=⟨[(0,v),(8,.aq 0 0 1),(9,w),(10,aa n),(11,.aq 1 0 us.length)],[(1,.cells ycN ycN ycO 1 (us.map aa)),(0,.cells ycO ycN ycN 1 [aa f])],2,0⟩/\us.length+k=a.length+1/\dg us/\dv us=A) (fun ex st'=>∃tm us,st'=⟨tm,[(1,.cells ycN ycN ycO 1 (us.map aa)),(0,.cells ycO ycN ycN 1 [aa f])],2,0⟩/\ex=.exit 0/\ai tm 8=.aq 0 0 1/\ai tm 9=w/\ai tm 10=aa n/\ai tm 11=.aq 1 0 (a.length+1)/\us.length=a.length+1/\dg us/\dv us=A):=by
 apply bQ;rintro k st ⟨us,rfl,hk,gu,aO⟩;have ea:((a.length:Nat):Int)+1=((a.length+1:Nat):Int):=rfl;by_cases hi:us.length<a.length+1
 .left
  simp only[go_sem,ya,yb,yk,yi,Lu,hv.len,ea,wrapN (n:=a.length+1) (by lia),show ((us.length:Nat):Int)<((a.length+1:Nat):Int) by lia]
  rw[dK (ex:=ycO) (pu:=ycN) (cs:=us.map aa) rfl (by simp) (by lia) (by lia) (by decide) rfl];refine⟨_,k-1,rfl,by lia,us++[0],?_,by simp;lia,iF.2 ⟨gu,me.2 (by decide)⟩,by rw[nE];simp[dv,aO]⟩
  rw[xu,yM];simp only[go_sem,ya,yb,ae,an hv.pu,an hw.pu]<;>rfl
 .right
  have hl:us.length=a.length+1:=by lia
  rw[hl]
  simp only[go_sem,ya,Lu,hv.len,ea,wrapN (n:=a.length+1) (by lia),show ¬((a.length+1:Nat):Int)<((a.length+1:Nat):Int) by lia];exact⟨_,_,rfl,by simp,_,us,rfl,rfl,rfl,rfl,rfl,rfl,hl,gu,aO⟩
def aeK:∀l:List Int,bY (l.map aa)=ycN
 | []=>rfl
 | a::r=>by rw[xi,ab8,aeK r];rfl
def aeL:∀l:List Int,aE (l.map aa)=ycN
 | []=>rfl
 | a::r=>by rw[xi,aE,aeL r];rfl
def ar6{hp:Hp}{ct:Nat}{e:Bool}{us:List Int}{o:Obj}(h:us.length<=100000000000):
  FY ((1,.cells ycN ycN ycN 1 [])::(0,o)::hp) ct 1 8 (.aq 1 0 0) (mK ((1,.cells ycN ycN ycN 1 [])::(0,o)::hp) 1 (.ap e us.length (us.map aa)))=GW (.aq ct 0 us.length,(ct,.cells ycN ycN ycO 1 (us.map aa))::dV ((1,.cells ycN ycN ycN 1 [])::(0,o)::hp) 1,ct+1):=by
 have h1:mK ((1,.cells ycN ycN ycN 1 [])::(0,o)::hp) 1 (.ap e us.length (us.map aa))=GW (us.length,us.map aa):=by
  simp[mK]
 rw[h1,dK (cs:=[]) (pu:=ycN) (ex:=ycN) rfl (by simp) (by lia) (by lia) (by decide) (aeK us),aeL,yf];rfl
def avx{l:List Int}(hd:dg l)(hn:nz l)(h:0<l.length):1000000000^(l.length-1)<=dv l:=QK hn hd (fun e=>by subst e;simp at h)
def apU{n top f V:Nat}(hf:f=1000000000/(top+1))(ht0:0<top)(ht:top<1000000000)(h1:V<1000000000^(n-1)*(top+1))(hn:0<n):0<f/\f<1000000000/\V*f<1000000000^n:=by
 have h2:f*(top+1)<=1000000000:=by rw[hf];exact Nat.div_mul_le_self _ _
 have h3:0<f:=by rw[hf];exact Nat.div_pos (by lia) (by lia)
 refine⟨h3,?_,?_⟩
 .have:=xa f (show 2<=top+1 by lia)
  lia
 .have e1:=xZ h1 h3;have e2:=xa (1000000000^(n-1)) h2;rw[<-xt,show (n-1).succ=n by lia] at e2
  grind
def avy(h:Has P L 289 AE)(my:Has P L 293 Dp)(rY:Has P L 299 Dr)(cR:Has P L 300 nc)(zB:Has P L 301 BX)(hv:bh v a)(hw:bh w b)(ha:dg a)(hb:dg b)(na:nz a)(nb:nz b)(la:a.length<=8000000000)(lb:2<=b.length)(ec:af P L 296 [v,w] (aa (dZ (dv a) (dv b))))(hc:dv b<=dv a):
  ∃q r lq lr,af P L 289 [v,w] (.av [q,r])/\bh q lq/\bh r lr/\dg lq/\nz lq/\dg lr/\nz lr/\dv lq=dv a/dv b/\dv lr=dv a%dv b:=by
 have dW:¬dZ (dv a) (dv b)<0:=by unfold dZ;rw[yI (by lia)];split<;>decide
 have ax9:=avx hb nb (by lia);have hba:b.length<=a.length:=by
  have:=kR ha
  have h1:1000000000^(b.length-1)<1000000000^a.length:=by lia
  have:=(ug (show 1<1000000000 by decide)).1 h1
  lia
 obtain⟨n,hn⟩:∃n,n=b.length:=⟨_,rfl⟩;have aAn:=iT hb (n-1);have rP:=last_pos hb nb (by lia);rw[<-hn] at rP;obtain⟨top,pZ⟩:∃v:Nat,b.getD (n-1) 0=v:=⟨(b.getD (n-1) 0).toNat,by lia⟩;have ahF:=zo hw (i:=n-1) (by lia);rw[pZ] at aAn rP ahF;have hbt:=rn (l:=b) (n-1);rw[show n-1+1=n by lia,yq (by lia),pZ,wa] at hbt;have aya:=kR (EG hb (n-1));rw[yO,xA (by lia)] at aya;obtain⟨f,hf⟩:∃f,f=1000000000/(top+1):=⟨_,rfl⟩;have⟨GK,hfB,hfV⟩:=apU (n:=n) (V:=dv b) hf (by lia) (by lia) (by rw[xK,yi];lia) (by lia)
 have hIf:bh (.ap ycN 1 [aa f]) [(f:Int)]:=lF ycN [(f:Int)];have gf:dg [(f:Int)]:=me.2 (by lia);have vf:dv [(f:Int)]=f:=by simp[dv]
 have⟨v',vs,e1,eJ,cy,GB,Oy,Bb⟩:=XR my cR hw hIf hb gf (by lia) (by simp);have⟨u',Eg,e2,jV,Gx,Jl,nus,OH⟩:=XR my cR hv hIf ha gf (by lia) (by simp);rw[vf] at Bb OH;have zO:0<dv b:=by have:=ybG (n:=b.length-1) (show 0<1000000000 by decide);lia
 have Cq:vs.length=n:=by
  have h1:vs.length<=n:=kj GB Oy (by rw[Bb];exact hfV)
  have h2:dv b<=dv vs:=by rw[Bb];exact Nat.le_mul_of_pos_right _ GK
  have h3:=kR GB;have h4:1000000000^(n-1)<1000000000^vs.length:=by rw[hn];lia
  have:=(ug (show 1<1000000000 by decide)).1 h4
  lia
 have S9:Eg.length<=a.length+1:=by
  refine kj Jl nus ?_;rw[OH,xt];exact yah (kR ha) hfB
 have ahG:0<Eg.length:=by
  rcases xv Eg.length with e | e
  .have h1:0<dv a*f:=vM (by lia) GK;rw[yt e] at OH;simp only[dv] at OH;lia
  .exact e
 have fC:0<vs.getD (n-1) 0:=by
  have:=last_pos GB Oy (by lia)
  rwa[Cq] at this
 obtain⟨m,hm⟩:∃m,m=a.length+1-n:=⟨_,rfl⟩;have cI:∀ct:Nat,AH ct 1 8 [.int .i64 0] (GW m) (GW m)=GW (.aq ct 0 m,.cells ycN ycN ycN 1 ((yD m (0:Int)).map aa)):=fun ct=>by
  rw[HZ (sz:=1) (by lia) (by lia) (by rfl) (by rfl),Ud];rfl
 obtain⟨e,rfl⟩:∃e,u'=.ap e Eg.length (Eg.map aa):=by
  rcases jV with ⟨rfl,h0⟩ | ⟨e,rfl⟩
  .rw [List.map_eq_nil_iff] at h0;rw[h0] at ahG;simp at ahG
  .exact ⟨e,by rw[yv]⟩
 have WB:∀us:List Int,us.length=a.length+1->dv us=dv a*f->dv (us.drop m)<dv vs:=fun us hl hd=>by
  have e1:=U2 us m (by lia);have e2:=kR ha;have e3:=xZ e2 GK;have e4:1000000000^a.length=1000000000^m*1000000000^(n-1):=by rw[<-xL];congr 1;lia
  rw[<-hd,e4,xm] at e3;have e5:1000000000^m*dv (us.drop m)<1000000000^m*(1000000000^(n-1)*f):=by lia
  refine yR (Nat.lt_of_mul_lt_mul_left e5) ?_;rw[Bb,hn];exact yQ _ ax9
 have jL:∃us qs,(us.length=a.length+1/\qs.length=m/\dg us/\dg qs/\dv us+dv qs*dv vs=dv a*f/\dv us<dv vs)/\
   ∃q1 r1 lr,bh q1 (eB qs)/\bh r1 lr/\dg lr/\nz lr/\dv lr=dv (us.take n)/f/\af P L 289 [v,w] (.av [q1,r1]):=by
  unfold af at ec e1 e2;unfold af;rw[aF h];have Nr:IntKind.wrap .i64 ((1000000000:Int).tdiv ((top+1:Nat):Int))=(f:Int):=by
   rw[xR (by decide),show (1000000000:Int)/((top+1:Nat):Int)=((1000000000/(top+1):Nat):Int) from rfl,<-hf,wrap64 (by lia) (by lia)]
  simp only[go_sem,ya,yb,yG,yk,yi,AE,hv.ak,hw.len,hw.ak,ec,dW,show ¬(n:Int)=1 by lia,<-hn,show (n:Int)-1=((n-1:Nat):Int) by lia,wrapN (n:=n-1) (by lia),ahF,show ((top:Nat):Int)+1=((top+1:Nat):Int) from rfl,wrapN (n:=top+1) (by lia),dl _ _ _ (show ((top+1:Nat):Int)≠0 by lia),Nr,e1,cy,eJ.len,Cq,e2,Gx,ar6 (us:=Eg) (e:=e) (by lia)];generalize zP:D P L (.loop _ Lu) _=q0;obtain⟨ex,st,rfl,tm,us,rfl,rfl,t8,t9,t10,t11,lu,gu,vu⟩:=aW zP (ar5 (P:=P) (L:=L) (f:=(f:Int)) (n:=n) (A:=dv a*f) hv eJ (by lia) (a.length+1-Eg.length)) ⟨Eg,by
   simp only[go_sem,ya,yb,ae,an hv.pu,an eJ.pu]<;>rfl,by lia,Jl,OH⟩
  have em:((a.length+1:Nat):Int)-(n:Int)=(m:Int):=by lia
  have em1:(m:Int)-1=((m-1:Nat):Int):=by lia
  simp only[go_sem,ya,yb,ae,an eJ.pu,t8,t9,t10,t11,em,wrapN (n:=m) (by lia),cI,em1,wrapN (n:=m-1) (by lia)];generalize fE:D P L (.loop _ Lw) _=q1;obtain⟨ex,st,rfl,sG,Eh,qs,rfl,rfl,t8,t10,t11,t12,lu1,OB,gu1,gq1,aO,aH⟩:=aW fE (ar4 (P:=P) (L:=L) zB (f:=(f:Int)) eJ GB Cq (by lia) (show n<a.length+1 by lia) (by lia) (by lia) fC (U0:=dv a*f) m) ⟨m,us,yD m 0,by
   rw[show ((m-1:Nat):Int)=(m:Int)-1 by lia]
   simp only[go_sem,ya,yb,ae,an eJ.pu]<;>rfl,rfl,yz _,lu,by simp,gu,acW m,fun i _=>abx m i,by rw[acV,ve,xd,vu],WB us lu vu⟩
  have lM:∀(hp:Hp) tm (y:X),ax hp 1=GW (.cells ycN ycN ycO 1 (Eh.map aa))->db tm (a.length+1) (GW y)=GW n->fN hp (.sl 1) (.aq 1 0 (a.length+1)) tm none (GW y)=GW (.aq 1 0 n):=fun hp tm y h1 h2=>ac5 h1 h2 (by lia) (by lia)
  obtain⟨e',OA⟩:∃e',∀hp:Hp,kW 0 n (GW (ycO,1,Eh.map aa,hp))=GW (.ap e' n ((Eh.take n).map aa),hp):=by
   refine⟨ycO&&yP 0 1&&yp n (Eh.map aa).length,fun hp=>?_⟩;simp only[kW,yf,yi,slice,yg,<-List.map_take];rw[yB (by simp;lia)]
   rfl
  have ltk:(Eh.take n).length=n:=by rw[yO];lia
  have iN:=lF e' (Eh.take n);rw[ltk] at iN;have⟨r0,f1,qI,aAo⟩:=Dw cR iN (by lia);have⟨r1,lr,f2,dQ,aES,ayb,dr,nr,vr⟩:=ahu rY cR qI (CK (EG gu1 n)) (by have:=Pr (Eh.take n);lia) GK hfB
  have Oz:=lF ycN qs;rw[OB] at Oz;have⟨q1,f3,fE,aAp⟩:=Dw cR Oz (by lia);rw[Bq] at vr;unfold af at f1 f2 f3;refine⟨Eh,qs,⟨lu1,OB,gu1,gq1,aO,aH⟩,q1,r1,lr,fE,dQ,dr,nr,vr,?_⟩;have qM:fc 1 0 (AV.aq 0 0 1)=GW (.ptr 0 0):=dn 0 0 (show 0<1 by lia)
  simp only[go_sem,ya,yb,ae,t8,t10,t11,t12,lM,dU,OA,f1,aAo,qI.ak,qM,f2,ayb,fun hp=>fL (hp:=hp) (k:=m) (sz:=1) (cs:=qs.map aa) ycN (by simp[OB]) (by decide),f3,aAp];rcases fE with ⟨rfl,_⟩ | ⟨_,rfl⟩<;>rcases dQ with ⟨rfl,_⟩ | ⟨_,rfl⟩<;>rfl
 have⟨us,qs,⟨lu,lq,gu,gq,aO,aH⟩,q1,r1,lr,fE,dQ,dr,nr,vr,e⟩:=jL;rw[Bb] at aO aH;have Nr:dv qs=dv a/dv b:=by
  rw[<-Nat.mul_div_mul_right _ _ GK,<-aO,ybE,xz,tV (vM zO GK),xW aH,xd]
 have Tb:dv us=(dv a%dv b)*f:=by
  rw[<-Nat.mul_mod_mul_right,<-aO,ybE,xz (dv qs),tW,yY aH]
 have lG:=U2 us n (by lia);have iA:dv (us.drop n)=0:=by
  rcases xv (dv (us.drop n)) with h0 | h0
  .exact h0
  .have:=xa (1000000000^n) h0
   lia
 rw[iA,xI,xd] at lG;rw[<-lG,Tb,uR _ GK] at vr;exact⟨q1,r1,_,lr,e,fE,dQ,CK gq,He _,dr,nr,by rw[Bq,Nr],vr⟩
def af6(h:Has P L 289 AE)(my:Has P L 293 Dp)(qg:Has P L 296 AF)(rY:Has P L 299 Dr)(cR:Has P L 300 nc)(zB:Has P L 301 BX)(hv:bh v a)(hw:bh w b)(ha:dg a)(hb:dg b)(na:nz a)(nb:nz b)(la:a.length<=8000000000)(lb:b.length<=8000000000)(h0:0<dv b):
  ∃q r lq lr,af P L 289 [v,w] (.av [q,r])/\bh q lq/\bh r lr/\dg lq/\nz lq/\dg lr/\nz lr/\dv lq=dv a/dv b/\dv lr=dv a%dv b:=by
 by_cases hl:b.length<=1
 .exact az9 h qg rY cR hv hw ha hb na nb (by lia) hl h0
 have ec:=XQ qg hv hw ha hb na nb (by lia) (by lia);by_cases hc:dv a<dv b
 .unfold af at ec;have dW:dZ (dv a) (dv b)= -1:=by unfold dZ;rw[yK hc]
  rw[dW] at ec;refine⟨.ab,v,[],a,?_,q8,hv,rfl,rfl,ha,na,?_,?_⟩
  .unfold af;rw[aF h];simp only[go_sem,ya,AE,hv.ak,hw.ak,ec,show (-1:Int)<0 by decide];rcases hv with ⟨rfl,_⟩ | ⟨e,rfl⟩<;>rfl
  .rw [xW hc];rfl
  .rw [yY hc]
 .exact avy h my rY cR zB hv hw ha hb na nb la (by lia) ec (by lia)
def af7(h:Has P L 275 RH)(NA:Has P L 289 AE)(my:Has P L 293 Dp)(qg:Has P L 296 AF)(rY:Has P L 299 Dr)(cR:Has P L 300 nc)(zB:Has P L 301 BX)(hv:bh v a)(hw:bh w b)(ha:dg a)(hb:dg b)(na:nz a)(nb:nz b)(la:a.length<=8000000000)(lb:b.length<=8000000000):
  ∃r l,af P L 275 [v,w] r/\bh r l/\dg l/\nz l/\dv l=wL (dv a) (dv b):=by
 have key:=fk P L [0,1] Ls
  (fun k st=>∃x y lx ly,st=⟨[(0,x),(1,y)],[],0,0⟩/\bh x lx/\bh y ly/\dg lx/\nz lx/\dg ly/\nz ly/\lx.length<=8000000000/\ly.length<=8000000000/\dv ly=k/\wL (dv lx) (dv ly)=wL (dv a) (dv b))
  (fun ex st=>∃tm ct,st=⟨tm,[],ct,0⟩/\ex=.exit 0/\∃x lx,ai tm 0=x/\bh x lx/\dg lx/\nz lx/\dv lx=wL (dv a) (dv b)) ?_
 .unfold af;rw[aF h];simp only[go_sem,RH];generalize hq:D P L (.loop _ Ls) _=q;obtain⟨ex,st,rfl,tm,ct,rfl,rfl,x,lx,h2,hx,dx,nx,vx⟩:=aW hq (key (dv b)) ⟨v,w,a,b,by simp only[go_sem,ya,ae,an hv.pu,an hw.pu]<;>rfl,hv,hw,ha,na,hb,nb,la,lb,rfl,rfl⟩
  refine⟨x,lx,?_,hx,dx,nx,vx⟩;simp only[go_sem,ae,h2,hx.eG,an hx.pu]
 .rintro k st ⟨x,y,lx,ly,rfl,hx,hy,dx,nx,dy,ny,llx,lly,rfl,hg⟩;by_cases h0:ly=[]
  .right
   subst h0;simp only[go_sem,ya,Ls,hy.len,yN,show ¬(0:Int)<((0:Nat):Int) by lia];refine⟨_,_,rfl,by simp,_,_,rfl,rfl,x,lx,rfl,hx,dx,nx,?_⟩;rw[<-hg];simp[dv]
  .left
   have hp:0<dv ly:=by
    rcases xv (dv ly) with e | e
    .exact absurd (ad0 ny dy e) h0
    .exact e
   have hl:0<ly.length:=uX.2 h0;have⟨q,r,lq,lr,e1,hq,hr,dq,nq,dr,nr,vq,vr⟩:=af6 NA my qg rY cR zB hx hy dx dy nx ny llx lly hp;have aH:dv lr<dv ly:=by rw[vr];exact xO _ hp
   have hB:=kR dy;simp only[go_sem,ya,Ls,hx.ak,hy.len,hy.ak,show (0:Int)<ly.length by lia,e1,hq.bA,hr.bA];refine⟨_,dv lr,rfl,aH,y,r,ly,lr,?_,hy,hr,dy,ny,dr,nr,by lia,xn (kj dr nr (vO aH hB)) lly,rfl,?_⟩
   .simp only [go_sem,ya,ae,an hy.pu,an hr.pu]<;>rfl
   .rw [<-hg,vr,tU (dv ly),<-Nat.gcd_rec,tU]
end
def avz(BY:Has P L 290 Iw){neg:Bool}{N:Nat}(hN:(aC N).length<=180000000000):
  bP P L [0,2,3,4] BA (fun k s=>∃(i m:Nat) (out:List Int),m=k/\out.length=i/\dg out/\dv out+1000000000^i*m=N/\(aC m).length+9*i<=180000000000/\
    ((i=0/\s=⟨[(0,.str (aC m)),(2,.ptr 0 0),(3,.bool neg),(4,.ab)],[(0,.cells ycN ycN ycN 2 [.bool ycO,.ab])],1,0⟩)\/
    (0<i/\s=⟨[(0,.str (aC m)),(2,.ptr 0 0),(3,.bool neg),(4,.aq 1 0 i)],[(1,.cells ycN ycN ycO 1 (out.map aa)),(0,.cells ycN ycN ycN 2 [.bool ycO,.ab])],2,0⟩))) (fun ex s'=>∃tm i m out,ex=.exit 0/\m<1000000000/\out.length=i/\dg out/\dv out+1000000000^i*m=N/\i<20000000000/\ai tm 0=.str (aC m)/\ai tm 2=.ptr 0 0/\ai tm 3=.bool neg/\
    ((i=0/\ai tm 4=.ab/\s'=⟨tm,[(0,.cells ycN ycN ycN 2 [.bool ycO,.ab])],1,0⟩)\/(0<i/\ai tm 4=.aq 1 0 i/\s'=⟨tm,[(1,.cells ycN ycN ycO 1 (out.map aa)),(0,.cells ycN ycN ycN 2 [.bool ycO,.ab])],2,0⟩))):=by
 apply bQ;rintro k s ⟨i,m,out,rfl,hlen,hd,aO,hl,hs⟩;by_cases hm:1000000000<=m
 .left
  obtain⟨q,hq⟩:∃q,q=m/1000000000:=⟨_,rfl⟩;obtain⟨r,hr⟩:∃r,r=m%1000000000:=⟨_,rfl⟩;have lM:=apx hm;rw[<-hq,<-hr] at lM;have oS:=UX 9 r;have hqp:=Br q;have hlm:(aC m).length=(aC q).length+9:=by rw[lM,yM,oS]
  have c1:ja (aC m) (GW (aC q).length) (GW (aC m).length)=GW (.str (jk 9 r)):=by
   rw[mL (by lia) (yz _),xP,lM,ue]
  have c2:ja (aC m) (GW 0) (GW (aC q).length)=GW (.str (aC q)):=by
   rw[mL (by lia) (by lia),yg,lM,uM]
  have e1:=Nl BY (s:=jk 9 r) (v:=r) (by lia) (by rw[ac3 9 r 0 (by lia)];simp)
  unfold af at e1;have zA:dg (out++[(r:Int)]):=iF.2 ⟨hd,me.2 (by lia)⟩;have QS:dv (out++[(r:Int)])+1000000000^(i+1)*q=N:=by
   rw[nE,hlen,<-aO,xt];have e:=uk m 1000000000;rw[<-hr,<-hq] at e;rw[<-e];simp only[dv,wa,xI,xd,xK,xm]
   lia
  have Q9:((aC m).length:Int)-9=((aC q).length:Int):=by lia
  rcases hs with ⟨h0,rfl⟩ | ⟨h0,rfl⟩
  .subst h0;have jM:out=[]:=yt hlen;subst jM
   simp only[go_sem,ya,yb,xg,yG,yk,yi,BA,show (9:Int)<((aC m).length:Int) by lia,Q9,wrapN (n:=(aC q).length) (by lia),eZ,fG,dU,c1,c2,e1,eO];refine⟨_,q,rfl,by lia,1,q,[]++[(r:Int)],rfl,rfl,zA,QS,by lia,.inr ⟨by lia,?_⟩⟩;rfl
  .simp only [go_sem,ya,yb,yk,yi,BA,show (9:Int)<((aC m).length:Int) by lia,Q9,wrapN (n:=(aC q).length) (by lia),eZ,fG,dU,c1,e1]
   rw[dK (ex:=ycO) (pu:=ycN) (cs:=out.map aa) rfl (by rw[yv,hlen,yi]) (by lia) (by lia) (by decide) rfl]
   simp only[go_sem,ya,yb,eZ,fG,dU,Q9,wrapN (n:=(aC q).length) (by lia),c2];refine⟨_,q,rfl,by lia,i+1,q,out++[(r:Int)],rfl,by simp[hlen],zA,QS,by lia,.inr ⟨by lia,?_⟩⟩;rw[xu];simp only[go_sem,ya,yb,ae]<;>rfl
 .right
  have h9:(aC m).length<=9:=Ae (k:=8) (by lia);have hp0:=Br m;rcases hs with ⟨h0,rfl⟩ | ⟨h0,rfl⟩
  .simp only [go_sem,BA,show ¬(9:Int)<((aC m).length:Int) by lia];exact⟨_,_,rfl,by simp,_,i,m,out,rfl,by lia,hlen,hd,aO,by lia,rfl,rfl,rfl,.inl ⟨h0,rfl,rfl⟩⟩
  .simp only [go_sem,BA,show ¬(9:Int)<((aC m).length:Int) by lia];exact⟨_,_,rfl,by simp,_,i,m,out,rfl,by lia,hlen,hd,aO,by lia,rfl,rfl,rfl,.inr ⟨h0,rfl,rfl⟩⟩
def ahH(h:Rb P L){n:Int}(hn:(aC n.natAbs).length<=180000000000):∃r,af P L 288 [.str (aV n)] r/\lk r n:=by
 obtain⟨u,hu⟩:∃u,u=aC n.natAbs:=⟨_,rfl⟩;have⟨b,t,hb,jQ,A6⟩:=G4 n.natAbs;have hs:aV n=(if n<0 then [45] else [])++u:=by rw[hu,pE]
 have D0:0<u.length:=by rw[hu];exact Br _
 have zM:u[0]=b:=by
  have:u=b::t:=by rw[hu,hb]
  simp[this]
 have key:∀(s:St),bq [0,2,3,4] s=⟨[(0,.str u),(2,.ptr 0 0),(3,.bool (decide (n<0))),(4,.ab)],[(0,.cells ycN ycN ycN 2 [.bool ycO,.ab])],1,0⟩->
   ∃ex s',D P L (.loop [0,2,3,4] BA) s=GW (ex,s')/\∃tm i m out,ex=.exit 0/\m<1000000000/\out.length=i/\dg out/\dv out+1000000000^i*m=n.natAbs/\i<20000000000/\ai tm 0=.str (aC m)/\ai tm 2=.ptr 0 0/\ai tm 3=.bool (decide (n<0))/\
    ((i=0/\ai tm 4=.ab/\s'=⟨tm,[(0,.cells ycN ycN ycN 2 [.bool ycO,.ab])],1,0⟩)\/(0<i/\ai tm 4=.aq 1 0 i/\s'=⟨tm,[(1,.cells ycN ycN ycO 1 (out.map aa)),(0,.cells ycN ycN ycN 2 [.bool ycO,.ab])],2,0⟩)):=fun s hc=>
  avz (P:=P) (L:=L) h.BY (neg:=decide (n<0)) hn n.natAbs s ⟨0,n.natAbs,[],rfl,rfl,rfl,by simp[dv],by lia,.inl ⟨rfl,by rw[hc,hu]⟩⟩
 have fin:∀(i m:Nat) (out:List Int),m<1000000000->out.length=i->dg out->dv out+1000000000^i*m=n.natAbs->i<20000000000->∃w l,bS P L (D P L) 294 [.bool (decide (n<0)),.ap ycO (i+1) ((out++[(m:Int)]).map aa)]=GW (.agg [.bool (decide (n<0)),w])/\bh w l/\dg l/\nz l/\dv l=n.natAbs:=fun i m out h1 h2 h3 h4 h5=>by
  have hv:=lF ycO (out++[(m:Int)]);have hd:dg (out++[(m:Int)]):=iF.2 ⟨h3,me.2 (by lia)⟩;have aO:dv (out++[(m:Int)])=n.natAbs:=by rw[nE,h2];simp[dv];exact h4
  have⟨r,e,hr⟩:=zu h.jl h.cR (decide (n<0)) hv hd (by simp;lia)
  have D7:cF (decide (n<0)) (dv (out++[(m:Int)]))=n:=by
   rw[aO];unfold cF;by_cases h0:n<0
   .simp only [h0,yy,xS];lia
   .simp only [h0,yA,yL,xE];lia
  rw[D7] at hr;obtain⟨w,l,rfl,hw,js,lc,de⟩:=hr;simp only[yM,List.length_singleton,h2] at e;exact⟨w,l,e,hw,js,lc,de⟩
 unfold af;rw[hs];by_cases h0:n<0
 .rw [yK h0,aF h.ahB];have gG:ja (45::u) (GW 1) (GW (u.length+1))=GW (.str u):=by rw[mL (s:=45::u) (l:=1) (h:=u.length+1) (by lia) (by simp)];simp
  simp only[h0,yy] at key fin ⊢;simp only[go_sem,ya,yb,RN,aR,show (0:Int)<((u.length+1:Nat):Int) by lia,xh,xG,FZ,yy,eZ,fG,dU,gG];generalize hq:D P L (.loop _ BA) _=q;obtain⟨ex,s,rfl,tm,i,m,out,rfl,hm,hlen,hd,aO,hi,t0,t2,t3,FF⟩:=aW hq key (by simp only[go_sem,ya,yb,ae]<;>rfl)
  have e1:=Nl h.BY (s:=aC m) (v:=m) (by have:=Ae (k:=8) (n:=m) (by lia);lia) (EA m)
  have dP:i<20000000000:=hi;have⟨w,l,e2,hw,js,lc,de⟩:=fin i m out hm hlen hd aO dP;refine⟨_,?_,w,l,rfl,hw,js,lc,de⟩;unfold af at e1;rcases FF with ⟨zS,t4,rfl⟩ | ⟨zS,t4,rfl⟩
  .subst zS;have jM:out=[]:=yt hlen;subst jM;have iN:∀hp:Hp,kW 0 1 (GW (ycO,1,[AV.int .i64 (m:Int)],hp))=GW (.ap ycO 1 [AV.int .i64 (m:Int)],hp):=fun hp=>rfl
   simp only[xG,xi,wW,yf] at e2;simp only[go_sem,ya,yb,xg,yG,yk,yi,ae,t0,t2,t3,t4,e1,eO,iN,e2,a8,hw.pu,hw.one,gl];rcases hw with ⟨rfl,_⟩ | ⟨e,rfl⟩<;>simp only[h0,yy]<;>rfl
  .simp only [go_sem,ya,yb,yk,yi,ae,t0,t2,t3,t4,e1]
   rw[dK (ex:=ycO) (pu:=ycN) (cs:=out.map aa) rfl (by rw[yv,hlen,yi]) (by lia) (by lia) (by decide) rfl];have iN:∀hp:Hp,kW 0 (i+1) (GW (ycO,1,out.map aa++[AV.int .i64 (m:Int)],hp))=GW (.ap ycO (i+1) (out.map aa++[AV.int .i64 (m:Int)]),hp):=fun hp=>fL ycO (by simp[hlen]) (by decide)
   simp only[xu,xi,wW] at e2;simp only[go_sem,ya,yb,iN,e2,a8,hw.pu,hw.one,gl,ud];rcases hw with ⟨rfl,_⟩ | ⟨e,rfl⟩<;>simp only[h0,yy]<;>rfl
 .rw [yI h0,aF h.ahB,xG];simp only[h0,yA] at key fin ⊢;simp only[go_sem,ya,yb,RN,aR,show (0:Int)<(u.length:Int) by lia,zj D0,zM,show ¬((b:Nat):Int)=45 by lia];generalize hq:D P L (.loop _ BA) _=q;obtain⟨ex,s,rfl,tm,i,m,out,rfl,hm,hlen,hd,aO,hi,t0,t2,t3,FF⟩:=aW hq key (by simp only[go_sem,ya,yb,ae]<;>rfl)
  have e1:=Nl h.BY (s:=aC m) (v:=m) (by have:=Ae (k:=8) (n:=m) (by lia);lia) (EA m)
  have dP:i<20000000000:=hi;have⟨w,l,e2,hw,js,lc,de⟩:=fin i m out hm hlen hd aO dP;refine⟨_,?_,w,l,rfl,hw,js,lc,de⟩;rcases FF with ⟨zS,t4,rfl⟩ | ⟨zS,t4,rfl⟩
  .subst zS;have jM:out=[]:=yt hlen;subst jM;have iN:∀hp:Hp,kW 0 1 (GW (ycO,1,[AV.int .i64 (m:Int)],hp))=GW (.ap ycO 1 [AV.int .i64 (m:Int)],hp):=fun hp=>rfl
   simp only[xG,xi,wW,yf] at e2;simp only[go_sem,ya,yb,xg,yG,yk,yi,ae,t0,t2,t3,t4,e1,eO,iN,e2,a8,hw.pu,hw.one,gl];rcases hw with ⟨rfl,_⟩ | ⟨e,rfl⟩<;>simp only[h0,yA]<;>rfl
  .simp only [go_sem,ya,yb,yk,yi,ae,t0,t2,t3,t4,e1]
   rw[dK (ex:=ycO) (pu:=ycN) (cs:=out.map aa) rfl (by rw[yv,hlen,yi]) (by lia) (by lia) (by decide) rfl];have iN:∀hp:Hp,kW 0 (i+1) (GW (ycO,1,out.map aa++[AV.int .i64 (m:Int)],hp))=GW (.ap ycO (i+1) (out.map aa++[AV.int .i64 (m:Int)]),hp):=fun hp=>fL ycO (by simp[hlen]) (by decide)
   simp only[xu,xi,wW] at e2;simp only[go_sem,ya,yb,iN,e2,a8,hw.pu,hw.one,gl,ud];rcases hw with ⟨rfl,_⟩ | ⟨e,rfl⟩<;>simp only[h0,yA]<;>rfl
def O0(n:Int)(r:List Nat):bZ (aV n++r)=(aV n).length+bZ r:=by
 rw[<-pE]
 split
 .simp only [xh,xG,bZ,yx];rw[yI (by decide),OY r (KI _)]
  lia
 .rw [xG];exact OY r (KI _)
def U3:∀{a b:List Nat},cN a b=ycN->a=b
 | [],[],_=>rfl
 | [],_::_,h=>by simp[cN] at h
 | _::_,[],h=>by simp[cN] at h
 | x::a,y::b,h=>by
  simp only[cN,ye] at h;rw[yh h.1,U3 h.2]
def af8{n:Int}{d:Nat}(h:n≠0):cN (TT n d) [48]=ycO:=by
 cases hb:cN (TT n d) [48] with
 | false=>rfl
 | true=>
  have e:=U3 hb;unfold TT at e;by_cases h0:n<0
  .rw [oz h0] at e;simp at e
  .obtain ⟨m,rfl⟩:∃m:Nat,n=m:=⟨n.toNat,by lia⟩;rw[mJ] at e;have⟨b,r,bD,_,_⟩:=G4 m;rw[bD] at e;simp only[xh,xQ,List.append_eq_nil_iff] at e;have hv:=EA m;rw[bD,e.1,e.2.1] at hv
   have:(GW 0:Option Nat)=GW m:=hv
   grind
def avA(h:Rb P L):∃r,af P L 281 [aa 1] r/\lk r 1:=by
 have⟨r,e,hr⟩:=zu h.jl h.cR ycO (lF ycO [(1:Int)]) (by decide) (by decide);obtain⟨w,l,rfl,hw,hd,hz,hv⟩:=hr;refine⟨_,?_,w,l,rfl,hw,hd,hz,hv⟩;simp only[xi,wW,yx,yN,yf] at e;have iN:∀hp:Hp,kW 0 1 (GW (ycO,1,[AV.int .i64 1],hp))=GW (.ap ycO 1 [AV.int .i64 1],hp):=fun hp=>rfl
 unfold af at e ⊢;rw[aF h.ahA];simp only[go_sem,ya,yb,xg,yG,yk,yi,RJ,aR,Int.reduceLT,yA,Qm,ae,Am,Int.reduceEq,xb,y9,yy,fF _ _ _ (show (1000000000:Int)≠0 by decide),dl _ _ _ (show (1000000000:Int)≠0 by decide),show Int.tmod 1 1000000000=1 from rfl,show Int.tdiv 1 1000000000=0 from rfl,show IntKind.wrap .i64 0=0 from rfl,eO,iN,e,hw.pu,hw.one,a8,gl];rcases hw with ⟨rfl,_⟩ | ⟨e,rfl⟩<;>rfl
def ahI(h:Rb P L){n:Int}{d:Nat}(hn:(aC n.natAbs).length<=144000000000)(hd:(aC d).length<=144000000000):
  ∃x y,af P L 274 [.str (TT n d)] (.av [x,y])/\lk x n/\lk y d:=by
 have⟨x,e1,hx⟩:=ahH h (n:=n) (by lia);have hli:(aV n).length<=(aC n.natAbs).length+1:=by rw[<-pE];split<;>simp
 by_cases h1:d=1
 .subst h1;have⟨y,e2,hy⟩:=avA h;have hT:TT n 1=aV n:=by unfold TT;simp
  have hs:=O0 n [];rw[wz] at hs;have e3:=IK h.Dv (s:=aV n) (by lia);rw[hs] at e3;refine⟨x,y,?_,hx,hy⟩;obtain⟨xw,xl,rfl,eU,_,_,_⟩:=hx;obtain⟨yw,yl,rfl,eV,_,_,_⟩:=hy;rw[hT];unfold af at e1 e2 e3 ⊢;rw[aF h.ahy];simp only[go_sem,ya,yb,RG,aR,e3,bZ,xd,yy,e1,e2,a8,eU.pu,eU.one,eV.pu,eV.one,gl];rcases eU with ⟨rfl,_⟩ | ⟨e,rfl⟩<;>rcases eV with ⟨rfl,_⟩ | ⟨e',rfl⟩<;>rfl
 .have ⟨y,e2,hy⟩:=ahH h (n:=(d:Int)) (by simp;lia)
  rw[mJ] at e2;obtain⟨s,Cr⟩:∃s,s=TT n d:=⟨_,rfl⟩;have hT:s=aV n++47::aC d:=by rw[Cr];unfold TT;rw[yI h1]
  have hs:bZ s=(aV n).length:=by rw[hT,O0];rfl
  have hlen:s.length=(aV n).length+(aC d).length+1:=by rw[hT];simp;lia
  have e3:=IK h.Dv (s:=s) (by lia);rw[hs] at e3;have c1:ja s (GW 0) (GW (aV n).length)=GW (.str (aV n)):=by
   rw[mL (by lia) (by lia),yg,hT,uM]
  have c2:ja s (GW ((aV n).length+1)) (GW s.length)=GW (.str (aC d)):=by
   rw[mL (by lia) (yz _),xP,hT,show aV n++47::aC d=(aV n++[47])++aC d by simp,show (aV n).length+1=(aV n++[47]).length by simp,ue]
  refine⟨x,y,?_,hx,hy⟩;obtain⟨xw,xl,rfl,eU,_,_,_⟩:=hx;obtain⟨yw,yl,rfl,eV,_,_,_⟩:=hy;rw[<-Cr];unfold af at e1 e2 e3 ⊢;rw[aF h.ahy]
  simp only[go_sem,ya,yb,RG,aR,e3,show ¬((aV n).length:Int)=(s.length:Int) by lia,eZ,fG,dU,c1,wrapN (n:=(aV n).length+1) (by lia),show ((aV n).length:Int)+1=(((aV n).length+1:Nat):Int) from rfl,c2,e1,e2,a8,eU.pu,eU.one,eV.pu,eV.one,gl];rcases eU with ⟨rfl,_⟩ | ⟨e,rfl⟩<;>rcases eV with ⟨rfl,_⟩ | ⟨e',rfl⟩<;>rfl
section
variable {d n:Int}{a b:List Int}
def Qr{d:Nat}(h:n<0):TT n d=45::TT (-n) d:=by
 have e:aV (-n)=aC n.natAbs:=by
  rw[<-pE,yI (show ¬-n<0 by lia),xG,show (-n).natAbs=n.natAbs by lia]
 unfold TT;rw[oz h,e];rfl
def ar7{d:Nat}(h:¬n<0):∃b u,TT n d=b::u/\48<=b:=by
 have⟨b,r,hb,h1,_⟩:=G4 n.natAbs;refine⟨b,r++(if d=1 then [] else 47::aC d),?_,h1⟩;unfold TT;rw[<-pE,yI h,xG,hb];rfl
def H4(a b:AV)(r:List AV):gZ 2 ycN (a::b::r)=GW (.agg [a,b]):=rfl
def ar8(k:Nat):2^k<=1000000000^k:=uf (by decide) k
def Bd.r{k:Nat}{z:Int}(h:Bd k z):z.natAbs<1000000000^k:=yR h (ar8 k)
def MC(r:Rat):RT r=TT r.num r.den:=rfl
def aec(hd:0<d):RT (wK n d)=rU n d:=by
 have⟨h1,h2⟩:=TJ (a:=n) hd;rw[arL hd,MC,h1]
 congr 1
 exact yai (show ((wK n d).den:Int)=((dN n d).toNat:Int) by rw[h2];have:=KQ (a:=n) hd;unfold dN at this ⊢;lia)
structure Rm(P:aG)(L:Lib):Prop extends Rb P L where
 aAq:Has P L 263 dE
 Sn:Has P L 273 FT
 aAr:Has P L 284 Xc
 aAs:Has P L 285 RL
 aAt:Has P L 286 RM
 IR:Has P L 287 M5
 zB:Has P L 301 BX
structure Rl(P:aG)(L:Lib):Prop extends Rm P L where
 aAu:Has P L 269 M2
structure Rp(P:aG)(L:Lib):Prop extends Ras P L,Rm P L
structure Rn(P:aG)(L:Lib):Prop extends Ra P L,Rp P L
structure Rx(P:aG)(L:Lib):Prop extends Rn P L,Rl P L where
 XW:Has P L 266 RF
 B4:Has P L 283 FV
def af9(h:Rm P L){v w:AV}(hv:bh v a)(hw:bh w b)(ha:dg a)(hb:dg b)(na:nz a)(nb:nz b)(la:a.length<=8000000000)(lb:b.length<=8000000000)(h0:0<dv b):
  ∃q r lq lr,af P L 289 [v,w] (.av [q,r])/\bh q lq/\bh r lr/\dg lq/\nz lq/\dg lr/\nz lr/\dv lq=dv a/dv b/\dv lr=dv a%dv b:=
 af6 h.NA h.my h.qg h.rY h.cR h.zB hv hw ha hb na nb la lb h0
def avB(h:Rm P L){x y:AV}{K:Nat}(hK:K<=8000000000)(hx:bh x a)(ha:dg a)(na:nz a)(va:dv a=n.natAbs)(hy:bh y b)(hb:dg b)(nb:nz b)(vb:dv b=d.natAbs)(kn:Bd K n)(kd:Bd K d)(hd:0<d){tm:Env}(t2:ai tm 2=.ptr 0 0)(t3:ai tm 3=.ptr 1 0):
  gK [.t 4] (D P L (aD (aD pX.body)) ⟨tm,[(1,.cells ycN ycN ycN 2 [.bool (decide (d<0)),y]),(0,.cells ycN ycN ycN 2 [.bool (decide (n<0)),x])],2,0⟩)=GW (.str (RT (wK n d))):=by
 rw[aec hd];have la:=xn (kj ha na (by rw[va];exact kn.r)) hK
 have lb:=xn (kj hb nb (by rw[vb];exact kd.r)) hK
 have⟨g,lg,e1,hg,ZR,ng,vg⟩:=af7 h.ahz h.NA h.my h.qg h.rY h.cR h.zB hx hy ha hb na nb la lb;rw[va,vb,show wL n.natAbs d.natAbs=vh n d from rfl] at vg;have N4:=P4 (a:=n) hd;have aAv:vh n d<=d.natAbs:=Int.gcd_le_natAbs_right n (by lia);have lg1:lg.length<=8000000000:=xn (kj ZR ng (by rw[vg];exact wB aAv kd.r)) hK
 have⟨p,p',lp,lp',e2,hp,au,dp,np,dp',np',vp,vp'⟩:=af9 h hx hg ha ZR na ng la lg1 (by lia);have⟨q,q',lq,lq',e3,hq,bB,dq,nq,dq',nq',vq,vq'⟩:=af9 h hy hg hb ZR nb ng lb lg1 (by lia);rw[va,vg] at vp;rw[vb,vg] at vq;have GL:(dF n d).natAbs=n.natAbs/vh n d:=by unfold dF;rw[uW (Int.gcd_dvd_left n d)];rfl
 have eT:(dN n d).natAbs=d.natAbs/vh n d:=by unfold dN;rw[uW (Int.gcd_dvd_right n d)];rfl
 have hdp:=KQ (a:=n) hd;rw[<-GL] at vp;rw[<-eT] at vq;have aET:=auR n d;have D7:cF (decide (n<0)) (dv lp)=dF n d:=by
  rw[vp];unfold cF;by_cases h0:n<0
  .have:¬0<=dF n d:=fun h1=>by have:=tK (tu N4) h1;lia
   simp only[h0,yy,xS];lia
  .have:¬dF n d<0:=fun h1=>by have:=Int.mul_neg_of_pos_of_neg N4 h1;lia
   simp only[h0,yA,yL,xE];lia
 have kn':Bd K (dF n d):=kn.le (ac1 n d);have Yu:Bd K (dN n d):=kd.le (ac2 n d);have lp1:lp.length<=8000000000:=xn (kj dp np (by rw[vp];exact kn'.r)) hK
 have OB:lq.length<=8000000000:=xn (kj dq nq (by rw[vq];exact Yu.r)) hK
 have⟨s,e4,hs⟩:=zu h.jl h.cR (decide (n<0)) hp dp (by lia);rw[D7] at hs;have⟨e5,l5⟩:=XU (K:=K) h.XV h.rV (by lia) hs kn'.r;have⟨u,e6,hu⟩:=zu h.jl h.cR ycO hq dq (by lia);have Cj:cF ycO (dv lq)=dN n d:=by rw[vq];unfold cF;simp only[yL,xE];lia
 rw[Cj] at hu;have⟨e7,l7⟩:=XU (K:=K) h.XV h.rV (by lia) hu Yu.r;obtain⟨sw,sl,rfl,nA,_,_,_⟩:=hs;obtain⟨uw,ul,rfl,huw,_,_,_⟩:=hu;have aEC:0<lq.length:=by
  rcases xv lq.length with e | e
  .rw [yt e] at vq;simp[dv] at vq;lia
  .exact e
 by_cases Ti:lq.length=1
 .obtain ⟨z,rfl⟩:∃z,lq=[z]:=by
   cases lq with
   | nil=>simp at Ti
   | cons z r=>cases r with
    | nil=>exact⟨z,rfl⟩
    | cons y r=>simp at Ti
  have OI:z=dN n d:=by simp[dv] at vq;lia
  have e8:=hq.a6 (i:=0) (by simp);simp only[tj] at e8;by_cases h1:dN n d=1
  .have hT:rU n d=aV (dF n d):=by unfold rU;rw[yK h1]
   rw[hT];simp only[go_sem,ya,pX,aD,t2,t3,hx.ak,hy.ak,bH,yf,du,show ¬d<0 by lia,yA,e1,hg.ak,hg.shut,e2,hp.ak,hp.bA,au.bA,e3,hq.len,hq.bA,bB.bA,e4,nA.ak,cm,a8,e5,yx,yN,show ((1:Nat):Int)=(1:Int) from rfl,yy,e8,OI,h1]
  .have hT:rU n d=(aV (dF n d)++[47])++aV (dN n d):=by unfold rU;rw[yI h1]
   rw[hT]
   simp only[go_sem,ya,pX,aD,t2,t3,hx.ak,hy.ak,bH,yf,du,show ¬d<0 by lia,yA,e1,hg.ak,hg.shut,e2,hp.ak,hp.bA,au.bA,e3,hq.len,hq.ak,hq.bA,bB.bA,e4,nA.ak,cm,a8,e5,yx,yN,show ((1:Nat):Int)=(1:Int) from rfl,yy,e8,OI,h1,ik (a:=aV (dF n d)) (b:=[47]) (by simp;lia),e6,huw.ak,e7,ik (a:=aV (dF n d)++[47]) (b:=aV (dN n d)) (by simp;lia)]
 .have h1:¬dN n d=1:=fun h1=>Ti (by
   have h2:lq.length<=1:=aeb dq nq (by rw[vq,h1];decide)
   lia)
  have hT:rU n d=(aV (dF n d)++[47])++aV (dN n d):=by unfold rU;rw[yI h1]
  rw[hT]
  simp only[go_sem,ya,pX,aD,t2,t3,hx.ak,hy.ak,bH,yf,du,show ¬d<0 by lia,yA,e1,hg.ak,hg.shut,e2,hp.ak,hp.bA,au.bA,e3,hq.len,hq.ak,hq.bA,bB.bA,e4,nA.ak,cm,a8,e5,show ¬(lq.length:Int)=1 by lia,ik (a:=aV (dF n d)) (b:=[47]) (by simp;lia),e6,huw.ak,e7,ik (a:=aV (dF n d)++[47]) (b:=aV (dN n d)) (by simp;lia)]
def ak7(n d:Int):wK (-n) (-d)=wK n d:=by rw[Rat.divInt_neg',yao]
def WE(h:Rm P L){v w:AV}{K:Nat}(hK:K<=8000000000)(hv:lk v n)(hw:lk w d)(kn:Bd K n)(kd:Bd K d)(hd:d≠0):af P L 280 [v,w] (.str (RT (wK n d))):=by
 have fin:∀{x y:AV} {a b:List Int} {n' d':Int},bh x a->dg a->nz a->dv a=n'.natAbs->bh y b->dg b->nz b->dv b=d'.natAbs->Bd K n'->Bd K d'->0<d'->wK n' d'=wK n d->∀tm,ai tm 2=.ptr 0 0->ai tm 3=.ptr 1 0->
   D P L (.seq (bC pX.body) (bC (aD pX.body))) ⟨[(0,v),(1,w)],[],0,0⟩=GW (.normal,⟨tm,[(1,.cells ycN ycN ycN 2 [.bool (decide (d'<0)),y]),(0,.cells ycN ycN ycN 2 [.bool (decide (n'<0)),x])],2,0⟩)->af P L 280 [v,w] (.str (RT (wK n d))):=fun {x y a b n' d'} hx ha na va hy hb nb vb kn kd hd hq tm t2 t3 e=>by
  unfold af;rw[aF h.aAi];show gK [.t 4] (D P L (.seq (bC pX.body) (.seq (bC (aD pX.body)) (aD (aD pX.body)))) ⟨[(0,v),(1,w)],[],0,0⟩)=_
  rw[EC,e,iS,<-hq];exact avB h hK hx ha na va hy hb nb vb kn kd hd t2 t3
 have eJ:=hv;have Bc:=hw;obtain⟨x,a,rfl,hx,ha,na,va⟩:=hv;obtain⟨y,b,rfl,hy,hb,nb,vb⟩:=hw;by_cases h0:d<0
 .have ⟨r,e1,hr⟩:=ahb (K:=K) h.ahC h.jl h.cR (by lia) eJ kn.r;have⟨s,e2,hs⟩:=ahb (K:=K) h.ahC h.jl h.cR (by lia) Bc kd.r;obtain⟨x',a',rfl,zU,kH,na',va'⟩:=hr;obtain⟨y',b',rfl,GJ,bD,nb',vb'⟩:=hs;simp only[h0,yy] at e2
  refine fin zU kH na' va' GJ bD nb' vb' kn.neg kd.neg (by lia) (ak7 n d) _ ?_ ?_ (by
   simp only[go_sem,ya,yb,pX,bC,aD,aR,hx.pu,hx.ak,hx.one,hy.pu,hy.ak,hy.one,zU.pu,zU.one,GJ.pu,GJ.one,bH,yf,h0,yy,H4,cm,e1,e2,a8,gl]<;>rfl)<;>simp only[go_sem,ya]
 .refine fin hx ha na va hy hb nb vb kn kd (by lia) rfl _ ?_ ?_ (by simp only[go_sem,ya,yb,pX,bC,aD,aR,hx.pu,hx.one,hy.pu,hy.one,bH,yf,h0,yA]<;>rfl)<;>simp only[go_sem,ya]
end
section
variable {n:Int}{K:Nat}{a:Rat}
def ayc(z:Int)(m:Nat)(h:z.natAbs=m):(z.tdiv 1000000000).natAbs=m/1000000000/\(if z.tmod 1000000000<0 then 0-z.tmod 1000000000 else z.tmod 1000000000)=((m%1000000000:Nat):Int)/\(z<0->z.tdiv 1000000000<=0)/\(0<=z->0<=z.tdiv 1000000000):=by
 rcases Int.lt_or_le z 0 with h0 | h0
 .obtain ⟨n,rfl⟩:∃n:Nat,z= -(n:Int):=⟨z.natAbs,by lia⟩;rw[Int.neg_tdiv,Int.neg_tmod,xR (by lia),xH (by lia)]
  grind
 .grind
def avC{neg:Bool}{N:Nat}(hN:N<=9223372036854775808):
  bP P L [0,2,3,4] Am (fun k s=>∃(i:Nat) (z:Int) (out:List Int),z.natAbs=k/\out.length=i/\dg out/\dv out+1000000000^i*z.natAbs=N/\(neg=ycN->z<=0)/\(neg=ycO->0<=z)/\i<=3/\
    ((i=0/\s=⟨[(0,aa z),(2,.ptr 0 0),(3,.ab),(4,.bool neg)],[(0,.cells ycN ycN ycN 2 [.bool ycO,.ab])],1,0⟩)\/
    (0<i/\s=⟨[(0,aa z),(2,.ptr 0 0),(3,.aq 1 0 i),(4,.bool neg)],[(1,.cells ycN ycN ycO 1 (out.map aa)),(0,.cells ycN ycN ycN 2 [.bool ycO,.ab])],2,0⟩))) (fun ex s'=>∃tm i out,ex=.exit 0/\out.length=i/\i<=3/\dg out/\dv out=N/\ai tm 2=.ptr 0 0/\ai tm 4=.bool neg/\
    ((i=0/\ai tm 3=.ab/\s'=⟨tm,[(0,.cells ycN ycN ycN 2 [.bool ycO,.ab])],1,0⟩)\/(0<i/\ai tm 3=.aq 1 0 i/\s'=⟨tm,[(1,.cells ycN ycN ycO 1 (out.map aa)),(0,.cells ycN ycN ycN 2 [.bool ycO,.ab])],2,0⟩))):=by
 apply bQ;rintro k s ⟨i,z,out,rfl,hlen,hd,aO,iP,jq,hi3,hs⟩;by_cases hz:z=0
 .right
  subst hz;have hv:dv out=N:=by simpa using aO
  rcases hs with ⟨h0,rfl⟩ | ⟨h0,rfl⟩
  .simp only [go_sem,Am,yy,y9];exact⟨_,_,rfl,by simp,_,i,out,rfl,hlen,hi3,hd,hv,rfl,rfl,.inl ⟨h0,rfl,rfl⟩⟩
  .simp only [go_sem,Am,yy,y9];exact⟨_,_,rfl,by simp,_,i,out,rfl,hlen,hi3,hd,hv,rfl,rfl,.inr ⟨h0,rfl,rfl⟩⟩
 .left
  obtain⟨m,hm⟩:∃m,z.natAbs=m:=⟨_,rfl⟩;have sR:0<m:=by lia
  rw[hm] at aO;have OJ:i<3:=by
   rcases Nat.lt_or_ge i 3 with h | h
   .exact h
   .have e3:i=3:=by lia
    subst e3
    have:=xa (1000000000^3) sR
    lia
  have hmN:m<=9223372036854775808:=by
   have:=tT m (ybG (n:=i) (show 0<1000000000 by decide))
   lia
  have⟨d1,d2,d3,d4⟩:=ayc z m hm;have fg:=uk m 1000000000;have zA:dg (out++[((m%1000000000:Nat):Int)]):=iF.2 ⟨hd,me.2 (by lia)⟩;have QS:dv (out++[((m%1000000000:Nat):Int)])+1000000000^(i+1)*(m/1000000000)=N:=by
   rw[nE,hlen,<-aO,xt,xm];have e:1000000000^i*m=1000000000^i*(m%1000000000)+1000000000^i*(1000000000*(m/1000000000)):=by rw[<-xK,fg]
   rw[e];simp only[dv,wa,xI,xd]
   lia
  have A8:IntKind.wrap .i64 (z.tdiv 1000000000)=z.tdiv 1000000000:=wrap64 (by lia) (by lia);have ns: -9223372036854775808<=z.tmod 1000000000/\z.tmod 1000000000<1000000000:=by
   have h1:(z.tmod 1000000000).natAbs<1000000000:=by
    split at d2<;>lia
   lia
  have BM:(neg=ycN->z.tdiv 1000000000<=0)/\(neg=ycO->0<=z.tdiv 1000000000):=⟨fun h=>d3 (by have:=iP h;lia),fun h=>d4 (jq h)⟩
  have aH:(z.tdiv 1000000000).natAbs<m:=by rw[d1];lia
  obtain⟨z',ej⟩:∃z',z.tdiv 1000000000=z':=⟨_,rfl⟩;rw[ej] at d1 d3 d4 A8 BM aH;have de:dv (out++[((m%1000000000:Nat):Int)])+1000000000^(i+1)*z'.natAbs=N:=by rw[d1];exact QS
  generalize m%1000000000=r at*
  by_cases gg:z.tmod 1000000000<0
  .rw [yK gg] at d2;rcases hs with ⟨h0,rfl⟩ | ⟨h0,rfl⟩
   .subst h0;have jM:out=[]:=yt hlen;subst jM
    simp only[go_sem,ya,yb,xg,yG,yk,yi,Am,yA,hz,xb,fF _ _ _ (show (1000000000:Int)≠0 by decide),dl _ _ _ (show (1000000000:Int)≠0 by decide),gg,d2,wrapN (n:=r) (by lia),eO,ej,A8];refine⟨_,z'.natAbs,rfl,by lia,1,z',[]++[(r:Int)],rfl,rfl,zA,de,BM.1,BM.2,by lia,.inr ⟨by lia,?_⟩⟩;simp only[go_sem,ya,yb,ae]<;>rfl
   .simp only [go_sem,ya,yb,yk,yi,Am,yA,hz,xb,fF _ _ _ (show (1000000000:Int)≠0 by decide),gg,d2,wrapN (n:=r) (by lia)]
    rw[dK (ex:=ycO) (pu:=ycN) (cs:=out.map aa) rfl (by rw[yv,hlen,yi]) (by lia) (by lia) (by decide) rfl];simp only[go_sem,ya,yb,dl _ _ _ (show (1000000000:Int)≠0 by decide),ej,A8];refine⟨_,z'.natAbs,rfl,by lia,i+1,z',out++[(r:Int)],rfl,by simp[hlen],zA,de,BM.1,BM.2,by lia,.inr ⟨by lia,?_⟩⟩;rw[xu];simp only[go_sem,ya,yb,ae]<;>rfl
  .rw [yI gg] at d2;rcases hs with ⟨h0,rfl⟩ | ⟨h0,rfl⟩
   .subst h0;have jM:out=[]:=yt hlen;subst jM;simp only[go_sem,ya,yb,xg,yG,yk,yi,Am,yA,hz,xb,fF _ _ _ (show (1000000000:Int)≠0 by decide),dl _ _ _ (show (1000000000:Int)≠0 by decide),d2,show ¬((r:Nat):Int)<0 by lia,eO,ej,A8];refine⟨_,z'.natAbs,rfl,by lia,1,z',[]++[(r:Int)],rfl,rfl,zA,de,BM.1,BM.2,by lia,.inr ⟨by lia,?_⟩⟩;simp only[go_sem,ya,yb,ae]<;>rfl
   .simp only [go_sem,ya,yb,yk,yi,Am,yA,hz,xb,fF _ _ _ (show (1000000000:Int)≠0 by decide),d2,show ¬((r:Nat):Int)<0 by lia]
    rw[dK (ex:=ycO) (pu:=ycN) (cs:=out.map aa) rfl (by rw[yv,hlen,yi]) (by lia) (by lia) (by decide) rfl];simp only[go_sem,ya,yb,dl _ _ _ (show (1000000000:Int)≠0 by decide),ej,A8];refine⟨_,z'.natAbs,rfl,by lia,i+1,z',out++[(r:Int)],rfl,by simp[hlen],zA,de,BM.1,BM.2,by lia,.inr ⟨by lia,?_⟩⟩;rw[xu];simp only[go_sem,ya,yb,ae]<;>rfl
def aed(h: -9223372036854775808<=n/\n<9223372036854775808):n.natAbs<=9223372036854775808:=by lia
def aee(n:Int):cF (decide (n<0)) n.natAbs=n:=by
 unfold cF
 grind
def ayd(h:Rm P L)(hn: -9223372036854775808<=n/\n<9223372036854775808):∃r,af P L 281 [aa n] r/\lk r n:=by
 have key:=fun s=>avC (P:=P) (L:=L) (neg:=decide (n<0)) (aed hn) n.natAbs s
 unfold af;rw[aF h.ahA];simp only[go_sem,ya,yb,RJ,aR];generalize hq:D P L (.loop _ Am) _=q;obtain⟨ex,s,rfl,tm,i,out,rfl,hlen,hi,hd,aO,t2,t4,FF⟩:=aW hq key (by
  refine⟨0,n,[],rfl,rfl,rfl,by simp[dv],fun h=>by simp at h;lia,fun h=>by simp at h;lia,by lia,.inl ⟨rfl,?_⟩⟩
  simp only[go_sem,ya,yb,ae]<;>rfl)
 rcases FF with ⟨zS,t3,rfl⟩ | ⟨zS,t3,rfl⟩
 .subst zS;have jM:out=[]:=yt hlen;subst jM;have⟨r,e,hr⟩:=zu h.jl h.cR (decide (n<0)) (show bh .ab [] from q8) hd (by simp);rw[aO,aee] at hr;have bR:=hr;obtain⟨w,l,rfl,hw,_,_,_⟩:=bR;refine⟨_,?_,hr⟩;simp only[go_sem,ya,yb,ae,t2,t3,t4,e,hw.pu,hw.one,a8,gl];rcases hw with ⟨rfl,_⟩ | ⟨e,rfl⟩<;>rfl
 .have hI:=lF ycO out;rw[hlen] at hI;have⟨r,e,hr⟩:=zu h.jl h.cR (decide (n<0)) hI hd (by lia);rw[aO,aee] at hr;have bR:=hr;obtain⟨w,l,rfl,hw,_,_,_⟩:=bR;refine⟨_,?_,hr⟩
  simp only[go_sem,ya,yb,ae,t2,t3,t4,fun hp=>fL (hp:=hp) (k:=i) (sz:=1) (cs:=out.map aa) ycO (by simp[hlen]) (by decide),e,hw.pu,hw.one,a8,gl];rcases hw with ⟨rfl,_⟩ | ⟨e,rfl⟩<;>rfl
def avD(n:Int):RT (n:Rat)=aV n:=by unfold RT;simp
def MD(h:Rm P L)(r9:Has P L 265 FR)(hn: -9223372036854775808<=n/\n<9223372036854775808):af P L 265 [aa n] (.str (RT (n:Rat))):=by
 have⟨r,e,hr⟩:=ayd h hn;have⟨e2,_⟩:=XU (K:=8) h.XV h.rV (by lia) hr (by have:=aed hn;lia)
 rw[avD];obtain⟨w,l,rfl,hw,_,_,_⟩:=hr;unfold af at e e2 ⊢;rw[aF r9];simp only[go_sem,ya,FR,e,hw.ak,a8,cm,e2]
def E9(h:Hq K a):(RT a).length<=2*K+3:=by
 have h1:=KJ h.1;have h2:=KJ h.2;rw[mJ] at h2;unfold RT
 grind
def aef{z:Int}(h:Bd K z):(aC z.natAbs).length<=K+1:=by
 have:=KJ (z:=(z.natAbs:Int)) (k:=K) (by unfold Bd at h ⊢;lia)
 rwa[mJ] at this
def ME(h:Rm P L)(ka:Hq K a)(hK:K<=8000000000):∃x y,af P L 274 [.str (RT a)] (.av [x,y])/\lk x a.num/\lk y (a.den:Int):=by
 have h1:=aef ka.1;have h2:=aef ka.2
 exact ahI h.toRb (n:=a.num) (d:=a.den) (by lia) (by simpa using (by lia:(aC ((a.den:Int)).natAbs).length<=144000000000))
def aga(h:Rm P L){d:Nat}(hl:(TT n d).length<=100000000000)(h00:n=0->d=1):af P L 262 [.str (TT n d)] (aa (cW n)):=by
 unfold af;rw[aF h.aAg];by_cases h0:n<0
 .have fP:=af8 (n:=n) (d:=d) (by lia);rw[Qr h0] at fP ⊢;simp only[go_sem,ya,MY,mM,fP,show (0:Int)<(((TT (-n) d).length+1:Nat):Int) by lia,FZ,yy];unfold cW;rw[yK h0]
 .by_cases h1:n=0
  .subst h1
   have:=h00 rfl
   subst this;rw[show TT 0 1=[48] by decide];simp only[go_sem,ya,MY,mM,show cN [48] [48]=ycN from rfl];rfl
  .have fP:=af8 (n:=n) (d:=d) h1;have⟨b,u,hb,jQ⟩:=ar7 (d:=d) h0;rw[hb] at fP ⊢;simp only[go_sem,ya,MY,mM,fP,show (0:Int)<((u.length+1:Nat):Int) by lia,show oJ 0 (.str (b::u))=GW (.int .u8 (b:Nat)) from rfl,show ¬((b:Nat):Int)=45 by lia];unfold cW;rw[yI h0,yI h1]
def akB(h:a.num=0):a.den=1:=by simp_all
def aye(h:Rm P L)(ka:Hq K a)(hK:K<=8000000000):af P L 262 [.str (RT a)] (aa (cW a.num)):=
 aga h (by have:=E9 ka;rw[MC] at this;lia) akB
def agb(h:Rp P L)(ka:Hq K a)(hK:K<=8000000000):af P L 268 [.str (RT a)] (.str (RT (-a))):=by
 have e:=aye h.toRm ka hK;have hl:=E9 ka;have en:(-a).num= -a.num:=rfl;have ed:(-a).den=a.den:=rfl;rw[MC] at hl e ⊢;rw[MC,en,ed];generalize a.num=n at*
 generalize a.den=d at*
 unfold af at e ⊢;rw[aF h.aAj];by_cases h0:n<0
 .have es:cW n= -1:=by unfold cW;rw[yK h0]
  rw[es,Qr h0] at e;rw[Qr h0] at hl ⊢;have hc:ja (45::TT (-n) d) (GW 1) (GW ((TT (-n) d).length+1))=GW (.str (TT (-n) d)):=by rw[mL (s:=45::TT (-n) d) (l:=1) (h:=(TT (-n) d).length+1) (by lia) (by simp)];simp
  simp only[go_sem,ya,M1,e,show (-1:Int)<0 by decide,eZ,fG,dU,hc]
 .by_cases h1:n=0
  .subst h1;have es:cW 0=0:=rfl;rw[es] at e;simp only[go_sem,ya,M1,e,show ¬(0:Int)<0 by decide,yy,Int.neg_zero]
  .have es:cW n=1:=by unfold cW;rw[yI h0,yI h1]
   rw[es] at e
   have:TT (-n) d=45::TT n d:=by rw[Qr (by lia),yao]
   rw[this]
   simp only[go_sem,ya,M1,e,show ¬(1:Int)<0 by decide,show ¬(1:Int)=0 by decide,ik (a:=[45]) (b:=TT n d) (by simp;lia),xh,xG]
end
section
variable {K M:Nat}{a b:Rat}
def aeg(n:Int)(d:Nat):VN ycN n d=.av [aa n,aa d,.bool ycN]:=rfl
def MF{a b:Int}(ha:a.natAbs<1000000000)(hb:b.natAbs<1000000000):(a*b).natAbs<1000000000000000000:=by
 rw[Int.natAbs_mul];exact yR (yah ha hb) (by decide)
def agc(h:Rm P L){a b:Int}(ha: -4000000000000000000<=a/\a<=4000000000000000000)(hb:0<b/\b<=4000000000000000000):af P L 277 [aa a,aa b] (.str (RT (wK a b))):=by
 rw[aec hb.1];exact azi h.aAh h.Xo h.rV ha hb
def QT(h:Rp P L)(ka:Hq K a)(hK:K<=8000000000):∃q:Bool,af P L 276 [.str (RT a)] (VN q a.num a.den)/\(q=ycN->a.num.natAbs<1000000000/\a.den<1000000000):=
 azj h.aAl h.Dv h.BY (n:=a.num) (d:=a.den) (by have:=E9 ka;rw[MC] at this;lia)
def Ax(h:Rn P L)(ka:Hq K a)(kb:Hq M b)(hK:K+M<=8000000000):af P L 267 [.str (RT a),.str (RT b)] (.str (RT (a*b))):=by
 have⟨q1,e1,b1⟩:=QT h.toRp ka (by lia);have⟨q2,e2,b2⟩:=QT h.toRp kb (by lia);have aAw:=GY a b;by_cases hq:(q1=ycN/\q2=ycN)
 .obtain ⟨rfl,rfl⟩:=hq;have⟨b11,b12⟩:=b1 rfl;have⟨b21,b22⟩:=b2 rfl;have p1:=MF b11 b21;have p2:=MF (a:=(a.den:Int)) (b:=(b.den:Int)) (by lia) (by lia);have e3:=agc h.toRm (a:=a.num*b.num) (b:=(a.den:Int)*b.den) (by lia) (by lia);rw[<-mul_eq] at e3;rw[aeg] at e1 e2;unfold af at e1 e2 e3 ⊢;rw[aF h.ahE]
  simp only[go_sem,ya,M0,e1,e2,wrap64 (n:=a.num*b.num) (by lia) (by lia),wrap64 (n:=(a.den:Int)*(b.den:Int)) (by lia) (by lia),e3]
 .have bB:∃n1 d1 n2 d2,bS P L (D P L) 276 [.str (RT a)]=GW (.av [aa n1,aa d1,.bool q1])/\bS P L (D P L) 276 [.str (RT b)]=GW (.av [aa n2,aa d2,.bool q2]):=by
   cases q1<;>cases q2<;>exact⟨_,_,_,_,e1,e2⟩
  have⟨n1,d1,n2,d2,e1,e2⟩:=bB;have⟨x,y,e3,hx,hy⟩:=ME h.toRm ka (by lia);have⟨z,w,e4,hz,hw⟩:=ME h.toRm kb (by lia);have IS:max K M<=8000000000:=by lia
  have⟨r,e5,hr⟩:=Nz (K:=max K M) h.NB h.my h.jl h.cR IS hx hz (ka.1.mono (by lia)).r (kb.1.mono (by lia)).r;have⟨s,e6,hs⟩:=Nz (K:=max K M) h.NB h.my h.jl h.cR IS hy hw (ka.2.mono (by lia)).r (kb.2.mono (by lia)).r;have e7:=WE h.toRm hK hr hs (ka.1.mul kb.1) (ka.2.mul kb.2) (by lia);rw[<-mul_eq] at e7;obtain⟨xw,xl,rfl,eU,_,_,_⟩:=hx;obtain⟨yw,yl,rfl,eV,_,_,_⟩:=hy;obtain⟨zw,zl,rfl,qS,_,_,_⟩:=hz;obtain⟨ww,wl,rfl,qU,_,_,_⟩:=hw;obtain⟨eN,rl,rfl,zH,_,_,_⟩:=hr;obtain⟨sw,sl,rfl,nA,_,_,_⟩:=hs;have hb:¬(q1=ycN/\q2=ycN):=hq;unfold af at e3 e4 e5 e6 e7 ⊢;rw[aF h.ahE]
  cases q1 with
  | false=>
   simp only[go_sem,ya,yb,M0,aR,e1,e2,e3,e4,eU.pu,eU.ak,eU.one,eV.pu,eV.ak,eV.one,qS.pu,qS.ak,qS.one,qU.pu,qU.ak,qU.one,zH.ak,nA.ak,cm,a8,CH,gl,H4,e5,e6,e7]
  | true=>
   cases q2 with
   | true=>exact absurd ⟨rfl,rfl⟩ hb
   | false=>
    simp only[go_sem,ya,yb,M0,aR,e1,e2,e3,e4,eU.pu,eU.ak,eU.one,eV.pu,eV.ak,eV.one,qS.pu,qS.ak,qS.one,qU.pu,qU.ak,qU.one,zH.ak,nA.ak,cm,a8,CH,gl,H4,e5,e6,e7]
def Ay(h:Rp P L)(ka:Hq K a)(kb:Hq M b)(hK:K+M+1<=8000000000):af P L 264 [.str (RT a),.str (RT b)] (.str (RT (a+b))):=by
 have⟨q1,e1,b1⟩:=QT h ka (by lia);have⟨q2,e2,b2⟩:=QT h kb (by lia);have aAw:=GY a b;by_cases hq:(q1=ycN/\q2=ycN)
 .obtain ⟨rfl,rfl⟩:=hq;have⟨b11,b12⟩:=b1 rfl;have⟨b21,b22⟩:=b2 rfl;have p1:=MF (a:=a.num) (b:=(b.den:Int)) (by lia) (by lia);have p2:=MF (a:=b.num) (b:=(a.den:Int)) (by lia) (by lia);have p3:=MF (a:=(a.den:Int)) (b:=(b.den:Int)) (by lia) (by lia);have e3:=agc h.toRm (a:=a.num*b.den+b.num*a.den) (b:=(a.den:Int)*b.den) (by lia) (by lia);rw[<-add_eq] at e3;rw[aeg] at e1 e2;unfold af at e1 e2 e3 ⊢;rw[aF h.ahD]
  simp only[go_sem,ya,MZ,e1,e2,wrap64 (n:=a.num*(b.den:Int)) (by lia) (by lia),wrap64 (n:=b.num*(a.den:Int)) (by lia) (by lia),wrap64 (n:=a.num*(b.den:Int)+b.num*(a.den:Int)) (by lia) (by lia),wrap64 (n:=(a.den:Int)*(b.den:Int)) (by lia) (by lia),e3]
 .have bB:∃n1 d1 n2 d2,bS P L (D P L) 276 [.str (RT a)]=GW (.av [aa n1,aa d1,.bool q1])/\bS P L (D P L) 276 [.str (RT b)]=GW (.av [aa n2,aa d2,.bool q2]):=by
   cases q1<;>cases q2<;>exact⟨_,_,_,_,e1,e2⟩
  have⟨n1,d1,n2,d2,e1,e2⟩:=bB;have⟨x,y,e3,hx,hy⟩:=ME h.toRm ka (by lia);have⟨z,w,e4,hz,hw⟩:=ME h.toRm kb (by lia);have IS:max K M<=8000000000:=by lia
  have⟨r,e5,hr⟩:=Nz (K:=max K M) h.NB h.my h.jl h.cR IS hx hw (ka.1.mono (by lia)).r (kb.2.mono (by lia)).r;have⟨r2,ZS,lU⟩:=Nz (K:=max K M) h.NB h.my h.jl h.cR IS hz hy (kb.1.mono (by lia)).r (ka.2.mono (by lia)).r;have⟨s,e6,hs⟩:=Nz (K:=max K M) h.NB h.my h.jl h.cR IS hy hw (ka.2.mono (by lia)).r (kb.2.mono (by lia)).r;have k1:Bd (K+M) (a.num*b.den):=ka.1.mul kb.2;have k2:Bd (K+M) (b.num*a.den):=(kb.1.mul ka.2).mono (by lia);have⟨t,e8,ht⟩:=az8 (K:=K+M) h.aAm h.XS h.qg h.Sm h.oP h.jl h.cR (by lia) hr lU k1.r k2.r;have e7:=WE h.toRm hK ht hs (k1.XC k2) ((ka.2.mul kb.2).mono (by lia)) (by lia);rw[<-add_eq] at e7;obtain⟨xw,xl,rfl,eU,_,_,_⟩:=hx;obtain⟨yw,yl,rfl,eV,_,_,_⟩:=hy;obtain⟨zw,zl,rfl,qS,_,_,_⟩:=hz;obtain⟨ww,wl,rfl,qU,_,_,_⟩:=hw;obtain⟨eN,rl,rfl,zH,_,_,_⟩:=hr;obtain⟨rw2,rl2,rfl,ahJ,_,_,_⟩:=lU
  obtain⟨tw,tl,rfl,htw,_,_,_⟩:=ht;obtain⟨sw,sl,rfl,nA,_,_,_⟩:=hs;have hb:¬(q1=ycN/\q2=ycN):=hq;unfold af at e3 e4 e5 ZS e6 e7 e8 ⊢;rw[aF h.ahD]
  cases q1 with
  | false=>
   simp only[go_sem,ya,yb,MZ,aR,e1,e2,e3,e4,eU.pu,eU.ak,eU.one,eV.pu,eV.ak,eV.one,qS.pu,qS.ak,qS.one,qU.pu,qU.ak,qU.one,zH.ak,ahJ.ak,htw.ak,nA.ak,cm,a8,CH,gl,H4,e5,ZS,e8,e6,e7]
  | true=>
   cases q2 with
   | true=>exact absurd ⟨rfl,rfl⟩ hb
   | false=>
    simp only[go_sem,ya,yb,MZ,aR,e1,e2,e3,e4,eU.pu,eU.ak,eU.one,eV.pu,eV.ak,eV.one,qS.pu,qS.ak,qS.one,qU.pu,qU.ak,qU.one,zH.ak,ahJ.ak,htw.ak,nA.ak,cm,a8,CH,gl,H4,e5,ZS,e8,e6,e7]
def agd(h:Rp P L)(ka:Hq K a)(kb:Hq M b)(hK:K+M+1<=8000000000):af P L 271 [.str (RT a),.str (RT b)] (.str (RT (a-b))):=by
 have e1:=agb h kb (by lia);have e2:=Ay h ka kb.neg hK;rw[<-Rat.sub_eq_add_neg] at e2;unfold af at e1 e2 ⊢;rw[aF h.aAk];simp only[go_sem,ya,Xb,e1,e2]
def inv_divInt(a:Rat)(h:a≠0):a⁻¹=wK (a.den:Int) a.num:=by
 rw[Rat.inv_def]
def age(h:Rn P L)(B4:Has P L 283 FV)(ka:Hq K a)(hK:K<=8000000000)(h0:a≠0):af P L 283 [.str (RT a)] (.str (RT a⁻¹)):=by
 obtain⟨x,y,e3,hx,hy⟩:=ME h.toRm ka hK;have hn:a.num≠0:=fun e=>h0 (Rat.num_eq_zero.1 e)
 have e7:=WE h.toRm hK hy hx ka.2 ka.1 hn;rw[<-inv_divInt a h0] at e7;obtain⟨xw,xl,rfl,eU,_,_,_⟩:=hx;obtain⟨yw,yl,rfl,eV,_,_,_⟩:=hy;unfold af at e3 e7 ⊢;rw[aF B4];simp only[go_sem,ya,yb,FV,aR,e3,eU.pu,eU.ak,eU.one,eV.pu,eV.ak,eV.one,cm,CH,gl,H4,e7]
def ayf(h:Rn P L)(XW:Has P L 266 RF)(B4:Has P L 283 FV)(ka:Hq K a)(kb:Hq M b)(hK:K+M<=8000000000)(h0:b≠0):af P L 266 [.str (RT a),.str (RT b)] (.str (RT (a/b))):=by
 have e1:=age h B4 kb (by omega) h0;have e2:=Ax h ka kb.inv hK;rw[<-Rat.div_def] at e2;unfold af at e1 e2 ⊢;rw[aF XW];simp only[go_sem,ya,RF,e1,e2]
def WG(h:Rx P L)(ka:Hq K a)(kb:Hq M b)(hK:K+M<=8000000000)(h0:b≠0):af P L 266 [.str (RT a),.str (RT b)] (.str (RT (a/b))):=ayf h.toRn h.XW h.B4 ka kb hK h0
end
section
variable {a b s t:List Nat}{k:Nat}
def ack{P:aG}{L:Lib}(a b c d:VC)(s:St):D P L (.seq a (.seq b (.seq c d))) s=rN P L (D P L (.seq a (.seq b c)) s) d:=by
 have e:=EC (P:=P) (L:=L) b c d;rw[nS,nS]
 cases D P L a s with
 | none=>rfl
 | some q=>
  have⟨ex,st⟩:=q
  cases ex with
  | normal=>rw[iS,iS];exact e st
  | ret=>rfl
  | exit id=>rfl
def pU(h:a≠b):cN a b=ycO:=by
 cases hb:cN a b with
 | false=>rfl
 | true=>exact absurd (U3 hb) h
def adm:∀a:List Nat,cN a a=ycN
 | []=>rfl
 | x::a=>by simp[cN,adm a]
def VX(h:a=b):cN a b=ycN:=h▸adm a
def anH{i:Nat}(h:i<s.length):dA (s.drop i)=(yJ 48 s[i]&&yJ s[i] 57&&dA (s.drop (i+1))):=by
 rw[yT h];rfl
def aAx(h:Has P L 287 M5)(hl:s.length<9223372036854775808):af P L 287 [.str s] (.bool (dA s)):=by
 have key:=fk P L [0,3] EX
  (fun k st=>∃i:Nat,st=⟨[(0,.str s),(3,aa i)],[],0,0⟩/\i+k=s.length/\dA (s.drop i)=dA s)
  (fun ex st=>∃tm ct,st=⟨tm,[],ct,0⟩/\((ex=.ret/\ai tm 2=.bool ycO/\dA s=ycO)\/(ex=.exit 0/\dA s=ycN))) ?_
 .unfold af;rw[aF h];simp only[go_sem,M5];generalize hq:D P L (.loop _ EX) _=q;obtain⟨ex,st,rfl,tm,ct,rfl,h2⟩:=aW hq (key s.length) ⟨0,by simp only[go_sem,ya,ae]<;>rfl,by lia,by simp⟩
  rcases h2 with ⟨rfl,h2,h3⟩ | ⟨rfl,h3⟩
  .simp only [go_sem,h2,h3]
  .simp only [go_sem,ae,h3]
 .rintro k st ⟨i,rfl,hk,hs⟩;by_cases hi:i<s.length
  .rw [anH hi] at hs;by_cases h1:s[i]<48
   .right
    have e:yJ 48 s[i]=ycO:=by
     cases hb:yJ 48 s[i] with
     | false=>rfl
     | true=>have:=yu hb;lia
    rw[e,xY,xY] at hs;simp only[go_sem,ya,EX,show (i:Int)<s.length by lia,zj hi,show ((s[i]:Nat):Int)<48 by lia,yy];exact⟨_,_,rfl,by simp,_,_,rfl,.inl ⟨rfl,rfl,hs.symm⟩⟩
   .by_cases h2:57<s[i]
    .right
     have e:yJ s[i] 57=ycO:=by
      cases hb:yJ s[i] 57 with
      | false=>rfl
      | true=>have:=yu hb;lia
     rw[e,Bool.and_false,xY] at hs;simp only[go_sem,ya,EX,show (i:Int)<s.length by lia,zj hi,show ¬((s[i]:Nat):Int)<48 by lia,yA,show (57:Int)<((s[i]:Nat):Int) by lia];exact⟨_,_,rfl,by simp,_,_,rfl,.inl ⟨rfl,rfl,hs.symm⟩⟩
    .left
     rw[yB (show 48<=s[i] by lia),yB (show s[i]<=57 by lia),wv,wv] at hs;simp only[go_sem,ya,EX,show (i:Int)<s.length by lia,zj hi,show ¬((s[i]:Nat):Int)<48 by lia,yA,show ¬(57:Int)<((s[i]:Nat):Int) by lia];refine⟨_,k-1,rfl,by lia,i+1,?_,by lia,hs⟩;rw[wrap64 (by lia) (by lia)];simp only[go_sem,ya,ae]<;>rfl
  .right
   simp only[go_sem,ya,EX,show ¬(i:Int)<s.length by lia];refine⟨_,_,rfl,by simp,_,_,rfl,.inr ⟨rfl,?_⟩⟩;rw[<-hs,yZ (by lia)];rfl
def So(h:Has P L 273 FT)(IR:Has P L 287 M5)(hl:s.length<9223372036854775808):af P L 273 [.str s] (.bool (eb s)):=by
 have e:=aAx IR hl;unfold af at e ⊢;rw[aF h]
 match s,hl,e with
 | [],_,_=>
  simp only[go_sem,ya,FT,yN,show ((0:Nat):Int)=0 from rfl,yy];rfl
 | [b],_,e=>
  have:eb [b]=dA [b]:=by simp[eb]
  rw[this];simp only[go_sem,ya,FT,yx,yN,yf,show ¬((1:Nat):Int)=0 by decide,show ¬(1:Int)<((1:Nat):Int) by decide,yA,e]
 | b::c::r,hl,e=>
  have hd:eb (b::c::r)=(dA (b::c::r)&& !(yp b 48)):=by simp[eb]
  rw[hd];have Ce:r.length+2<9223372036854775808:=by simpa using hl
  by_cases hb:b=48
  .subst hb;simp only[go_sem,ya,FT,yx,show ¬((r.length+1+1:Nat):Int)=0 by lia,yA,show (1:Int)<((r.length+1+1:Nat):Int) by lia,show oJ 0 (.str (48::c::r))=GW (.int .u8 48) from rfl,yy]
   simp
  .have:yp b 48=ycO:=iG hb
   rw[this,xb,ud];simp only[go_sem,ya,FT,yx,show ¬((r.length+1+1:Nat):Int)=0 by lia,yA,show (1:Int)<((r.length+1+1:Nat):Int) by lia,show oJ 0 (.str (b::c::r))=GW (.int .u8 (b:Nat)) from rfl,show ¬((b:Nat):Int)=48 by lia,e]
def adn(h:k<=s.length):ja s (GW 0) (GW k)=GW (.str (s.take k)):=by
 rw[mL (by lia) h,yg]
def PN(h:k<=s.length):ja s (GW k) (GW s.length)=GW (.str (s.drop k)):=by
 rw[mL h (yz _),xP]
def avE(h:Rm P L)(hk:k=bZ t)(hl:t.length<9223372036854775808)(hp:eb (t.take k)=ycN){tm:Env}(t3:ai tm 3=.str t)(t4:ai tm 4=aa k):
  gK [.t 2] (D P L (aD (aD (aD (aD (aD dE.body))))) ⟨tm,[],0,0⟩)=GW (aa (
   if k<t.length/\(eb (t.drop (k+1))=ycO\/t.drop (k+1)=[48]\/t.drop (k+1)=[49]) then 1
   else if 600<k\/600<t.length-k-1 then 4
   else if k<t.length/\wL (gE (t.take k)) (gE (t.drop (k+1)))≠1 then 1
   else 0)):=by
 have Km:k<=t.length:=by rw[hk];exact KH t
 have e3:=So h.Sn h.IR (s:=t.drop (k+1)) (by rw[xX];lia)
 unfold af at e3;have Ei:(k:Int)+1=((k+1:Nat):Int):=rfl;by_cases hs:k<t.length
 .have c2:=PN (s:=t) (k:=k+1) (by lia);have lG:=aat t (by lia);rw[<-hk] at lG;have OD:(t.drop (k+1)).length=t.length-k-1:=by rw[xX];lia
  have hlp:(t.take k).length=k:=by rw[yO];lia
  generalize ZT:t.drop (k+1)=q at*
  generalize ZU:t.take k=p at*
  cases hd:eb q with
  | false=>
   rw[yK ⟨hs,.inl rfl⟩];rw[hd] at e3
   simp only[go_sem,ya,dE,aD,t3,t4,show (k:Int)<(t.length:Int) by lia,yy,Ei,wrapN (n:=k+1) (by lia),eZ,fG,dU,c2,e3,xb]
  | true=>
   rw[hd] at e3;by_cases kI:q=[48]
   .rw [yK ⟨hs,.inr (.inl kI)⟩]
    simp only[go_sem,ya,dE,aD,t3,t4,show (k:Int)<(t.length:Int) by lia,yy,Ei,wrapN (n:=k+1) (by lia),eZ,fG,dU,c2,e3,y9,mM,VX kI]
   .by_cases qQ:q=[49]
    .rw [yK ⟨hs,.inr (.inr qQ)⟩]
     simp only[go_sem,ya,dE,aD,t3,t4,show (k:Int)<(t.length:Int) by lia,yy,Ei,wrapN (n:=k+1) (by lia),eZ,fG,dU,c2,e3,y9,mM,pU kI,VX qQ]
    .rw [yI (by simp only[hs,tN,ybg,ycl];exact fun e=>e.elim kI qQ)]
     by_cases DM:600<k
     .rw [yK (.inl DM)]
      simp only[go_sem,ya,dE,aD,t3,t4,show (k:Int)<(t.length:Int) by lia,yy,Ei,wrapN (n:=k+1) (by lia),eZ,fG,dU,c2,e3,y9,mM,pU kI,pU qQ,show (600:Int)<(k:Int) by lia]
     .by_cases aAy:600<t.length-k-1
      .rw [yK (.inr aAy)]
       simp only[go_sem,ya,dE,aD,t3,t4,show (k:Int)<(t.length:Int) by lia,yy,Ei,wrapN (n:=k+1) (by lia),eZ,fG,dU,c2,e3,y9,mM,pU kI,pU qQ,show ¬(600:Int)<(k:Int) by lia,yA,show (t.length:Int)-(k:Int)=((t.length-k:Nat):Int) by lia,wrapN (n:=t.length-k) (by lia),show ((t.length-k:Nat):Int)-1=((t.length-k-1:Nat):Int) by lia,wrapN (n:=t.length-k-1) (by lia),show (600:Int)<((t.length-k-1:Nat):Int) by lia]
      .rw [yI (by lia)];have zT:=G5 _ rfl hp;have qR:=G5 _ rfl hd;have iA:gE q≠0:=fun e=>kI (by rw[<-qR,e];rfl)
       have sM:gE q≠1:=fun e=>qQ (by rw[<-qR,e];rfl)
       generalize gE p=n at*
       generalize gE q=d at*
       have hT:TT (n:Int) d=t:=by
        unfold TT;rw[mJ,yI sM,zT,qR];exact lG.symm
       have⟨x,y,e4,hx,hy⟩:=ahI h.toRb (n:=(n:Int)) (d:=d) (by rw[wJ,zT];lia) (by rw[qR];lia)
       rw[hT] at e4;obtain⟨xw,xl,rfl,eU,dx,nx,vx⟩:=hx;obtain⟨yw,yl,rfl,eV,dy,ny,vy⟩:=hy;rw[wJ] at vx vy;have od:n<10^p.length:=by rw[<-zT];exact K2 n
       have hdb:d<10^q.length:=by rw[<-qR];exact K2 d
       obtain⟨K,hK⟩:∃K:Nat,K=600:=⟨_,rfl⟩;have S5:∀{m j:Nat},m<10^j->j<=K->m<1000000000^K:=fun {m j} h1 h2=>
        yR h1 (xn (xe (by decide) h2) (uf (by decide) K))
       have lxl:=kj dx nx (by rw[vx];exact S5 od (by lia))
       have lyl:=kj dy ny (by rw[vy];exact S5 hdb (by lia))
       have⟨g,lg,e5,hg,dgg,ngg,vg⟩:=af7 h.ahz h.NA h.my h.qg h.rY h.cR h.zB eU eV dx dy nx ny (by lia) (by lia);rw[vx,vy] at vg;have N4:0<wL n d:=Nat.gcd_pos_of_pos_right _ (by lia);unfold af at e4 e5;by_cases XX:lg.length=1
       .obtain ⟨z,rfl⟩:∃z,lg=[z]:=by
         cases lg with
         | nil=>simp at XX
         | cons z r=>cases r with
          | nil=>exact⟨z,rfl⟩
          | cons y r=>simp at XX
        have gz:=me.1 dgg;have OI:z=(wL n d:Nat):=by simp[dv] at vg;lia
        have e8:=hg.a6 (i:=0) (by simp);simp only[tj] at e8;by_cases gM:wL n d=1
        .rw [yI (by simp[gM])]
         simp only[go_sem,ya,yb,dE,aD,t3,t4,show (k:Int)<(t.length:Int) by lia,yy,Ei,wrapN (n:=k+1) (by lia),eZ,fG,dU,c2,e3,y9,mM,pU kI,pU qQ,show ¬(600:Int)<(k:Int) by lia,yA,show (t.length:Int)-(k:Int)=((t.length-k:Nat):Int) by lia,wrapN (n:=t.length-k) (by lia),show ((t.length-k:Nat):Int)-1=((t.length-k-1:Nat):Int) by lia,wrapN (n:=t.length-k-1) (by lia),show ¬(600:Int)<((t.length-k-1:Nat):Int) by lia,e4,aR,eU.pu,eU.ak,eU.one,eV.pu,eV.ak,eV.one,gl,bH,yf,du,e5,hg.len,hg.shut,yx,yN,show ((1:Nat):Int)=(1:Int) from rfl,y9,e8,OI,gM]
        .rw [yK ⟨hs,gM⟩]
         simp only[go_sem,ya,yb,dE,aD,t3,t4,show (k:Int)<(t.length:Int) by lia,yy,Ei,wrapN (n:=k+1) (by lia),eZ,fG,dU,c2,e3,y9,mM,pU kI,pU qQ,show ¬(600:Int)<(k:Int) by lia,yA,show (t.length:Int)-(k:Int)=((t.length-k:Nat):Int) by lia,wrapN (n:=t.length-k) (by lia),show ((t.length-k:Nat):Int)-1=((t.length-k-1:Nat):Int) by lia,wrapN (n:=t.length-k-1) (by lia),show ¬(600:Int)<((t.length-k-1:Nat):Int) by lia,e4,aR,eU.pu,eU.ak,eU.one,eV.pu,eV.ak,eV.one,gl,bH,yf,du,e5,hg.len,hg.shut,yx,yN,show ((1:Nat):Int)=(1:Int) from rfl,y9,e8,OI,show ¬((wL n d:Nat):Int)=1 by lia,xb]
       .have gM:wL n d≠1:=fun e=>XX (by
         have h1:lg.length<=1:=aeb dgg ngg (by lia);have h2:0<lg.length:=by
          rcases xv lg.length with h0 | h0
          .rw [yt h0] at vg;simp[dv] at vg;lia
          .exact h0
         lia)
        rw[yK ⟨hs,gM⟩]
        simp only[go_sem,ya,yb,dE,aD,t3,t4,show (k:Int)<(t.length:Int) by lia,yy,Ei,wrapN (n:=k+1) (by lia),eZ,fG,dU,c2,e3,y9,mM,pU kI,pU qQ,show ¬(600:Int)<(k:Int) by lia,yA,show (t.length:Int)-(k:Int)=((t.length-k:Nat):Int) by lia,wrapN (n:=t.length-k) (by lia),show ((t.length-k:Nat):Int)-1=((t.length-k-1:Nat):Int) by lia,wrapN (n:=t.length-k-1) (by lia),show ¬(600:Int)<((t.length-k-1:Nat):Int) by lia,e4,aR,eU.pu,eU.ak,eU.one,eV.pu,eV.ak,eV.one,gl,bH,yf,du,e5,hg.len,hg.shut,show ¬(lg.length:Int)=1 by lia,xb]
 .have hkt:k=t.length:=by lia
  rw[yI (by lia)];by_cases DM:600<k
  .rw [yK (.inl DM)];simp only[go_sem,ya,dE,aD,t3,t4,show ¬(k:Int)<(t.length:Int) by lia,yA,show (600:Int)<(k:Int) by lia,yy]
  .rw [yI (by lia),yI (by lia)]
   simp only[go_sem,ya,dE,aD,t3,t4,show ¬(k:Int)<(t.length:Int) by lia,yA,show ¬(600:Int)<(k:Int) by lia,show (t.length:Int)-(k:Int)=((t.length-k:Nat):Int) by lia,wrapN (n:=t.length-k) (by lia),show ((t.length-k:Nat):Int)-1= -1 by lia,show IntKind.wrap .i64 (-1)= -1 by rfl,show ¬(600:Int)<(-1:Int) by lia]
def aeM(h:Rm P L){b:Nat}{r:List Nat}{neg:Bool}(gg:decide (((b:Nat):Int)=45)=neg)(hl:t.length<9223372036854775808){tm:Env}(t0:ai tm 0=.str (b::r))(t3:ai tm 3=.str t):
  gK [.t 2] (D P L (aD (aD (aD dE.body))) ⟨tm,[],0,0⟩)=GW (aa (B2 neg t)):=by
 obtain⟨k,hk⟩:∃k,k=bZ t:=⟨_,rfl⟩;have Km:k<=t.length:=by rw[hk];exact KH t
 have e1:=IK h.Dv (s:=t) (by lia);have e2:=So h.Sn h.IR (s:=t.take k) (by rw[yO];lia)
 have e3:=So h.Sn h.IR (s:=t.drop (k+1)) (by rw[xX];lia)
 unfold B2;rw[<-hk] at e1 ⊢;have c1:=adn Km;have hI:oJ 0 (.str (b::r))=GW (.int .u8 (b:Nat)):=rfl;unfold af at e1 e2 e3;generalize hp:t.take k=p at*
 generalize hq:t.drop (k+1)=q at*
 cases hd:eb p with
 | false=>
  rw[yK (.inl rfl)];rw[hd] at e2;simp only[go_sem,ya,dE,aD,t3,e1,eZ,fG,dU,c1,e2,xb]
 | true=>
  rw[hd] at e2;by_cases hz:neg=ycN/\p=[48]
  .rw [yK (.inr hz)];have⟨z1,z2⟩:=hz;rw[z1] at gg;have hb:=of_decide_eq_true gg;subst z2;simp only[go_sem,ya,dE,aD,t0,t3,e1,eZ,fG,dU,c1,e2,y9,hI,hb,yy,mM,show cN [48] [48]=ycN from rfl]
  .rw [yI (by simp only[ybg,ycl];exact hz)]
   have fin:∀cB,ai cB 3=.str t->ai cB 4=aa k->D P L (.seq (bC (aD (aD (aD dE.body)))) (bC (aD (aD (aD (aD dE.body)))))) ⟨tm,[],0,0⟩=GW (.normal,⟨cB,[],0,0⟩)->gK [.t 2] (D P L (aD (aD (aD dE.body))) ⟨tm,[],0,0⟩)=GW (aa (
     if k<t.length/\(eb q=ycO\/q=[48]\/q=[49]) then 1
     else if 600<k\/600<t.length-k-1 then 4
     else if k<t.length/\wL (gE p) (gE q)≠1 then 1
     else 0)):=fun cB f3 f4 e=>by
    show gK [.t 2] (D P L (.seq (bC (aD (aD (aD dE.body)))) (.seq (bC (aD (aD (aD (aD dE.body))))) (aD (aD (aD (aD (aD dE.body))))))) ⟨tm,[],0,0⟩)=_
    rw[EC,e,iS,<-hp,<-hq];exact avE h hk hl (by rw[hp];exact hd) f3 f4
   by_cases hb:((b:Nat):Int)=45
   .have aAz:p≠[48]:=fun e=>hz ⟨by rw[<-gg];exact xo hb,e⟩
    refine fin _ ?_ ?_ (by simp only[go_sem,ya,dE,bC,aD,t0,t3,e1,eZ,fG,dU,c1,e2,y9,hI,hb,yy,mM,pU aAz]<;>rfl)<;>simp only[go_sem,ya,t3]
   .refine fin _ ?_ ?_ (by simp only[go_sem,ya,dE,bC,aD,t0,t3,e1,eZ,fG,dU,c1,e2,y9,hI,hb,yA]<;>rfl)<;>simp only[go_sem,ya,t3]
def aAA(h:Rm P L)(hl:s.length<9223372036854775808):af P L 263 [.str s] (aa (cK s)):=by
 unfold af;rw[aF h.aAq]
 cases s with
 | nil=>
  have e1:=IK h.Dv (s:=[]) (by simp);have e2:=So h.Sn h.IR (s:=[]) (by simp);unfold af at e1 e2;have hc:ja [] (GW 0) (GW 0)=GW (.str []):=rfl;simp only[go_sem,ya,dE,yN,show ¬(0:Int)<((0:Nat):Int) by decide,yA,e1,bZ,eZ,fG,dU,hc,e2,show eb []=ycO from rfl,xb];rfl
 | cons b t=>
  have Ce:t.length+1<9223372036854775808:=by simpa using hl
  have hI:oJ 0 (.str (b::t))=GW (.int .u8 (b:Nat)):=rfl;by_cases hb:b=45
  .subst hb;have fin:∀cB,ai cB 0=.str (45::t)->ai cB 3=.str t->D P L (.seq (bC dE.body) (.seq (bC (aD dE.body)) (bC (aD (aD dE.body))))) ⟨[(0,.str (45::t))],[],0,0⟩=GW (.normal,⟨cB,[],0,0⟩)->gK [.t 2] (D P L dE.body ⟨[(0,.str (45::t))],[],0,0⟩)=GW (aa (cK (45::t))):=fun cB f0 f3 e=>by
    show gK [.t 2] (D P L (.seq (bC dE.body) (.seq (bC (aD dE.body)) (.seq (bC (aD (aD dE.body))) (aD (aD (aD dE.body)))))) ⟨[(0,.str (45::t))],[],0,0⟩)=_
    rw[ack,e,iS]
    exact aeM h (b:=45) rfl (by lia) f0 f3
   have hc:ja (45::t) (GW 1) (GW (t.length+1))=GW (.str t):=by
    have:=PN (s:=45::t) (k:=1) (by simp)
    simpa using this
   refine fin _ ?_ ?_ (by simp only[go_sem,ya,dE,bC,aD,yx,show (0:Int)<((t.length+1:Nat):Int) by lia,yy,FZ,eZ,fG,dU,hc]<;>rfl)<;>simp only[go_sem,ya]
  .have fin:∀cB,ai cB 0=.str (b::t)->ai cB 3=.str (b::t)->D P L (.seq (bC dE.body) (.seq (bC (aD dE.body)) (bC (aD (aD dE.body))))) ⟨[(0,.str (b::t))],[],0,0⟩=GW (.normal,⟨cB,[],0,0⟩)->gK [.t 2] (D P L dE.body ⟨[(0,.str (b::t))],[],0,0⟩)=GW (aa (cK (b::t))):=fun cB f0 f3 e=>by
    show gK [.t 2] (D P L (.seq (bC dE.body) (.seq (bC (aD dE.body)) (.seq (bC (aD (aD dE.body))) (aD (aD (aD dE.body)))))) ⟨[(0,.str (b::t))],[],0,0⟩)=_
    rw[ack,e,iS]
    have:=aeM h (b:=b) (neg:=ycO) (yW (by lia)) (by simpa using hl) f0 f3
    rw[this];simp only[cK,yI hb]
   refine fin _ ?_ ?_ (by simp only[go_sem,ya,dE,bC,aD,yx,show (0:Int)<((t.length+1:Nat):Int) by lia,yy,hI,show ¬((b:Nat):Int)=45 by lia]<;>rfl)<;>simp only[go_sem,ya]
end
section
variable {l:List (List Nat)}
def bG(v:AV)(l:List (List Nat)):Prop:=b6 v (l.map AV.str)
section
variable {v:AV}{l:List (List Nat)}
def bG.len(h:bG v l){hp:Hp}:iW hp 1 v=GW (.int .i64 (l.length:Nat)):=by
 have:=b6.len (hp:=hp) h
 grind
def bG.pu(h:bG v l):aQ v=ycN:=b6.pu h
def bG.ak(h:bG v l)(n:Nat){hp:Hp}:freeze (n+1) hp v=GW (v,hp):=b6.ak h n
def bG.bA(h:bG v l):VE.bA v=v:=b6.bA h
def bG.a6(h:bG v l){i:Nat}(hi:i<l.length):fc 1 i v=GW (.bN (.str l[i]::(l.map AV.str).drop (i+1))):=by
 have:=b6.a6 h (i:=i) (by simpa using hi)
 grind
def K4(e:Bool)(l:List (List Nat)):bG (.ap e l.length (l.map AV.str)) l:=by
 have:=ru e (l.map AV.str)
 rwa[yv] at this
end
def ar9(h:Rm P L){a:Rat}{K:Nat}(ka:Hq K a)(hK:K<=4000000000):bS P L (D P L) 284 [.str (RT a)]=GW (.str (aV a.num))/\bS P L (D P L) 285 [.str (aV a.num)]=GW (.str (aC a.num.natAbs))/\bS P L (D P L) 286 [.str (RT a)]=GW (.str (aC a.den)):=by
 have hl:=E9 ka;have e0:=IK h.Dv (s:=RT a) (by lia);have lM:bZ (RT a)=(aV a.num).length/\(RT a).take (aV a.num).length=aV a.num:=by
  unfold RT;by_cases hd:a.den=1
  .rw [yK hd,wz]
   have:=O0 a.num []
   rw[wz] at this;exact⟨by rw[this];simp[bZ],xP⟩
  .rw [yI hd];exact⟨by rw[O0];simp[bZ],uM⟩
 have⟨dW,A0⟩:=lM;rw[dW] at e0;have hlen:(aV a.num).length<=(RT a).length:=by unfold RT;simp
 have e1:bS P L (D P L) 284 [.str (RT a)]=GW (.str (aV a.num)):=by
  rw[aF h.aAr]
  have:=adn (s:=RT a) hlen
  simp only[go_sem,ya,Xc,e0,eZ,fG,dU,this,A0]
 have hT:aV a.num=TT a.num 1:=by unfold TT;simp
 have e2:bS P L (D P L) 285 [.str (aV a.num)]=GW (.str (aC a.num.natAbs)):=by
  have e:=aga h (n:=a.num) (d:=1) (by rw[<-hT];lia) (fun _=>rfl)
  rw[<-hT] at e;rw[aF h.aAs];by_cases h0:a.num<0
  .have es:cW a.num= -1:=by unfold cW;rw[yK h0]
   rw[es] at e;rw[oz h0] at e ⊢;have hc:=PN (s:=45::aC a.num.natAbs) (k:=1) (by simp);simp only[List.drop_succ_cons,yg,yx] at hc;simp only[go_sem,ya,RL,e,show (-1:Int)<0 by decide,eZ,fG,dU,hc]
  .have es:¬cW a.num<0:=by unfold cW;rw[yI h0];split<;>decide
   have hi:aV a.num=aC a.num.natAbs:=by
    obtain⟨m,hm⟩:∃m:Nat,a.num=m:=⟨a.num.toNat,by lia⟩;rw[hm,mJ,wJ]
   simp only[go_sem,ya,RL,e,es];rw[hi]
 have e3:bS P L (D P L) 286 [.str (RT a)]=GW (.str (aC a.den)):=by
  rw[aF h.aAt];by_cases hd:a.den=1
  .have hR:(RT a).length=(aV a.num).length:=by unfold RT;rw[yK hd];simp
   rw[hd,show aC 1=[49] by decide];simp only[go_sem,ya,RM,e0,show ((aV a.num).length:Int)=((RT a).length:Int) by lia,yy]
  .have hR:RT a=(aV a.num++[47])++aC a.den:=by unfold RT;rw[yI hd];simp
   have hRl:(RT a).length=(aV a.num).length+1+(aC a.den).length:=by rw[hR];simp;lia
   have hc:=PN (s:=RT a) (k:=(aV a.num).length+1) (by lia);have jS:(RT a).drop ((aV a.num).length+1)=aC a.den:=by
    rw[hR,show (aV a.num).length+1=(aV a.num++[47]).length by simp,ue]
   rw[jS] at hc
   simp only[go_sem,ya,RM,e0,show ¬((aV a.num).length:Int)=((RT a).length:Int) by lia,show ((aV a.num).length:Int)+1=(((aV a.num).length+1:Nat):Int) from rfl,wrapN (n:=(aV a.num).length+1) (by lia),eZ,fG,dU,hc]
 exact⟨e1,e2,e3⟩
def ayg(h:Rl P L){a:Rat}{K:Nat}(ka:Hq K a)(hK:K<=4000000000):af P L 269 [.str (RT a)] (aa (if LG a=ycN then 4 else 0)):=by
 obtain⟨e1,e2,e3⟩:=ar9 h.toRm ka hK;unfold af;rw[aF h.aAu];unfold LG LN;rw[wJ];by_cases h1:600<(aC a.num.natAbs).length
 .rw [xo h1,th,yK rfl];simp only[go_sem,ya,M2,e1,e2,show (600:Int)<((aC a.num.natAbs).length:Int) by omega,yy]
 .by_cases h2:600<(aC a.den).length
  .rw [xo h2,Bool.or_true,yK rfl];simp only[go_sem,ya,M2,e1,e2,show ¬(600:Int)<((aC a.num.natAbs).length:Int) by omega,yA,e3,show (600:Int)<((aC a.den).length:Int) by omega]
  .rw [yW h1,yW h2,Bool.or_self,yI (by decide)];simp only[go_sem,ya,M2,e1,e2,show ¬(600:Int)<((aC a.num.natAbs).length:Int) by omega,yA,e3,show ¬(600:Int)<((aC a.den).length:Int) by omega]
def anI{i:Nat}(h:i<l.length):cd ((l.drop i).map cK)=if cK l[i]=0 then cd ((l.drop (i+1)).map cK) else cK l[i]:=by
 rw[yT h];rfl
def ayh(h:Rm P L)(B5:Has P L 261 FQ){v:AV}(hv:bG v l)(hl:l.length<=1000000)(hs:∀s,s∈l->s.length<9223372036854775808):af P L 261 [v] (aa (cd (l.map cK))):=by
 have key:=fk P L [0,3] Hw
  (fun k st=>∃i:Nat,st=⟨[(0,v),(3,aa i)],[],0,0⟩/\i+k=l.length/\cd ((l.drop i).map cK)=cd (l.map cK))
  (fun ex st=>∃tm ct,st=⟨tm,[],ct,0⟩/\((ex=.ret/\ai tm 2=aa (cd (l.map cK)))\/(ex=.exit 0/\cd (l.map cK)=0))) ?_
 .unfold af;rw[aF B5];simp only[go_sem,FQ];generalize hq:D P L (.loop _ Hw) _=q;obtain⟨ex,st,rfl,tm,ct,rfl,h2⟩:=aW hq (key l.length) ⟨0,by simp only[go_sem,ya,ae,an hv.pu]<;>rfl,by lia,by simp⟩
  rcases h2 with ⟨rfl,h2⟩ | ⟨rfl,h3⟩
  .simp only [go_sem,h2]
  .simp only [go_sem,ae,h3]
 .rintro k st ⟨i,rfl,hk,hd⟩;by_cases hi:i<l.length
  .rw [anI hi] at hd;have e1:=aAA h (hs l[i] (xq hi));have ev:=hv.a6 hi;unfold af at e1;by_cases h1:cK l[i]=0
   .left
    rw[yK h1] at hd;rw[h1] at e1;simp only[go_sem,ya,Hw,hv.len,show (i:Int)<l.length by lia,ev,e1,yy,y9];refine⟨_,k-1,rfl,by lia,i+1,?_,by lia,hd⟩;rw[wrap64 (by lia) (by lia)];simp only[go_sem,ya,ae,an hv.pu]<;>rfl
   .right
    rw[yI h1] at hd;simp only[go_sem,ya,Hw,hv.len,show (i:Int)<l.length by lia,ev,e1,h1,yA,xb];refine⟨_,_,rfl,by simp,_,_,rfl,.inl ⟨rfl,?_⟩⟩;rw[<-hd];simp only[go_sem]
  .right
   simp only[go_sem,ya,Hw,hv.len,show ¬(i:Int)<l.length by lia];refine⟨_,_,rfl,by simp,_,_,rfl,.inr ⟨rfl,?_⟩⟩;rw[<-hd,yZ (by lia)];rfl
def ayi(h:Rm P L)(B5:Has P L 261 FQ){v:AV}(hv:bG v l)(hl:l.length<=1000000)(hs:∀s,s∈l->s.length<=1000000000):af P L 261 [v] (aa (cd (l.map cK))):=ayh h B5 hv hl (fun s h=>by have:=hs s h;lia)
end
section
open Go (IntKind)
open Classical in
noncomputable def dM(s:List Nat):Rat:=if h:cK s=0 then Classical.choose (avm h) else 0
def CQ{s:List Nat}(h:cK s=0):s=RT (dM s)/\(aC (dM s).num.natAbs).length<=600/\(aC (dM s).den).length<=600:=by
 unfold dM
 grind
def acm{z:Int}{k M:Nat}(h:(aC z.natAbs).length<=k)(hM:4*k<=M):Bd M z:=by
 have h1:=K2 z.natAbs;have h2:=K3 (aC z.natAbs).length;have h3:(2:Nat)^(4*(aC z.natAbs).length)<=2^M:=xe (by decide) (by lia);exact yR h1 (xn h2 h3)
def pN{s:List Nat}(h:cK s=0){M:Nat}(hM:2400<=M):Hq M (dM s):=by
 have⟨_,h1,h2⟩:=CQ h
 exact⟨acm h1 (by lia),acm (z:=((dM s).den:Int)) (by rw[wJ];exact h2) (by lia)⟩
noncomputable def ahK(s:List Nat)(least:Int):Int:=if cK s=0 then (if cW (dM s).num<least then 3 else 0) else cK s
instance (k:Nat) (z:Int):Decidable (Bd k z):=inferInstanceAs (Decidable (z.natAbs<2^k))
def aAB:RT 0=[48]:=by decide
def aAC:RT 1=[49]:=by decide
def aAD:Hq 2 1:=⟨by decide,by decide⟩
def asa{a:Rat}(h:RT a=[48]):a=0:=by
 unfold RT at h;have hp:=Br a.den;by_cases hd:a.den=1
 .rw [yK hd,wz] at h;by_cases h0:a.num<0
  .rw [oz h0] at h;simp at h
  .obtain ⟨m,hm⟩:∃m:Nat,a.num=m:=⟨a.num.toNat,by lia⟩;rw[hm,mJ] at h;have hv:=EA m;rw[h] at hv;have hv:GW 0=GW m:=hv
   have:m=0:=by simp_all
   simp_all
 .rw [yI hd] at h;have hl:=congrArg tY h
  grind
def avF(a:Rat):cN (RT a) [48]=decide (a=0):=by
 by_cases h:a=0
 .subst h;exact VX aAB
 .rw [yW h];exact pU (fun e=>h (asa e))
end
def avG(hs h:Rat):Bool:=decide (hs=0)||decide (h<hs)
def di(v:AV)(a b:Rat):Prop:=∃s1 w1 s2 w2 s3 w3 s4 w4,v=.agg [aa s1,w1,aa s2,w2,aa s3,w3,aa s4,w4]/\df s1 w1 a.num/\df s2 w2 (a.den:Int)/\df s3 w3 b.num/\df s4 w4 (b.den:Int)
section
variable {s1 s2 s3 s4:Int}{w1 w2 w3 w4:AV}{l1 l2 l3 l4:List Nat}
def ayj(h1:bJ w1 l1)(h2:bJ w2 l2)(h3:bJ w3 l3)(h4:bJ w4 l4)(hp:Hp)(ct id:Nat)(a b c d e f g h:AV):dS hp ct id 0 8 [.int .i64 s1,w1,.int .i64 s2,w2,.int .i64 s3,w3,.int .i64 s4,w4] (GW (.cells ycN ycN ycN 8 [a,b,c,d,e,f,g,h]))=GW (.av [],aY hp id (.cells ycN ycN ycN 8 [.int .i64 s1,w1,.int .i64 s2,w2,.int .i64 s3,w3,.int .i64 s4,w4]),ct):=by
 rw[zn (by rfl) (by simp) (by simp[bY,h1.one,h2.one,h3.one,h4.one,Vl])];simp[aE,h1.pu,h2.pu,h3.pu,h4.pu,over,VM]
def ayk(h1:bJ w1 l1)(h2:bJ w2 l2)(h3:bJ w3 l3)(h4:bJ w4 l4)(hp:Hp):result hp (.agg [aa s1,w1,aa s2,w2,aa s3,w3,aa s4,w4])=GW (.agg [aa s1,w1,aa s2,w2,aa s3,w3,aa s4,w4]):=by
 rcases h1 with ⟨rfl,_⟩ | ⟨e,rfl⟩<;>rcases h2 with ⟨rfl,_⟩ | ⟨e',rfl⟩<;>rcases h3 with ⟨rfl,_⟩ | ⟨e,rfl⟩<;>rcases h4 with ⟨rfl,_⟩ | ⟨e',rfl⟩<;>rfl
def rA{tm:Env}{a b c d x y z w:AV}{x' y' z' w':AV}{r:List (Nat×Nat×X)}(h1:cY a=ycN)(h2:cY b=ycN)(h3:cY c=ycN)(h4:cY d=ycN):lI tm [x',y',z',w',x,y,z,w] 0 4 [a,b,c,d] r=fill tm [a,b,c,d,x,y,z,w] r:=by
 rw[K1 (by rfl) (by simp) (by simp[bY,h1,h2,h3,h4])];rfl
def rB{tm:Env}{a b c d x y z w:AV}{x' y' z' w':AV}{r:List (Nat×Nat×X)}(h1:cY a=ycN)(h2:cY b=ycN)(h3:cY c=ycN)(h4:cY d=ycN):lI tm [x,y,z,w,x',y',z',w'] 4 4 [a,b,c,d] r=fill tm [x,y,z,w,a,b,c,d] r:=by
 rw[K1 (by rfl) (by simp) (by simp[bY,h1,h2,h3,h4])];rfl
def Az(a b c d e f g h:AV):gZ 8 ycN [a,b,c,d,e,f,g,h]=GW (.agg [a,b,c,d,e,f,g,h]):=rfl
def eL(a b c d:AV)(r:List AV):gZ 4 ycN (a::b::c::d::r)=GW (.agg [a,b,c,d]):=rfl
def Hh(a b c d e f g h:AV):vW 4 [a,b,c,d,e,f,g,h]=[e,f,g,h]:=rfl
end
def anJ(a:List Nat):cN a a=ycN:=Hg rfl
structure F4(c1 c2 c3 c4:AV):Prop where
 ak:∀(n:Nat) (hp:Hp),freeze (n+20) hp (.agg [c1,c2,c3,c4])=GW (.agg [c1,c2,c3,c4],hp)
 eG:∀hp:Hp,result hp (.agg [c1,c2,c3,c4])=GW (.agg [c1,c2,c3,c4])
 st:∀(hp:Hp) (ct id:Nat) (a b c d:AV),dS hp ct id 0 4 [c1,c2,c3,c4] (GW (.cells ycN ycN ycN 4 [a,b,c,d]))=GW (.av [],aY hp id (.cells ycN ycN ycN 4 [c1,c2,c3,c4]),ct)
 bx:∀ct:Nat,gW ct 4 [c1,c2,c3,c4]=GW (.ptr ct 0,.cells ycN ycN ycN 4 [c1,c2,c3,c4])
 o1:cY c1=ycN
 o2:cY c2=ycN
 o3:cY c3=ycN
 o4:cY c4=ycN
 pu:aQ (.agg [c1,c2,c3,c4])=ycN
 z1:∀(n:Nat) (hp:Hp),freeze (n+1) hp c1=GW (c1,hp)
 z2:∀(n:Nat) (hp:Hp),freeze (n+1) hp c2=GW (c2,hp)
 z3:∀(n:Nat) (hp:Hp),freeze (n+1) hp c3=GW (c3,hp)
 z4:∀(n:Nat) (hp:Hp),freeze (n+1) hp c4=GW (c4,hp)
structure F8(c1 c2 c3 c4 c5 c6 c7 c8:AV):Prop where
 ak:∀(n:Nat) (hp:Hp),freeze (n+20) hp (.agg [c1,c2,c3,c4,c5,c6,c7,c8])=GW (.agg [c1,c2,c3,c4,c5,c6,c7,c8],hp)
 eG:∀hp:Hp,result hp (.agg [c1,c2,c3,c4,c5,c6,c7,c8])=GW (.agg [c1,c2,c3,c4,c5,c6,c7,c8])
 st:∀(hp:Hp) (ct id:Nat) (a b c d e f g h:AV),dS hp ct id 0 8 [c1,c2,c3,c4,c5,c6,c7,c8] (GW (.cells ycN ycN ycN 8 [a,b,c,d,e,f,g,h]))=GW (.av [],aY hp id (.cells ycN ycN ycN 8 [c1,c2,c3,c4,c5,c6,c7,c8]),ct)
 bx:∀ct:Nat,gW ct 8 [c1,c2,c3,c4,c5,c6,c7,c8]=GW (.ptr ct 0,.cells ycN ycN ycN 8 [c1,c2,c3,c4,c5,c6,c7,c8])
def bE.gen{v:AV}{a:Rat}(h:bE v a):∃c1 c2 c3 c4,v=.agg [c1,c2,c3,c4]/\F4 c1 c2 c3 c4:=by
 obtain⟨s1,w1,s2,w2,rfl,h1,h2⟩:=h;have⟨l1,u1⟩:=h1.aM;have⟨l2,u2⟩:=h2.aM;refine⟨_,_,_,_,rfl,fun n hp=>?_,kU u1 u2,fun hp ct id a b c d=>kT u1 u2 hp ct id a b c d,fun ct=>by simp only[go_sem,yb,aR,u1.pu,u1.one,u2.pu,u2.one],rfl,u1.one,rfl,u2.one,by simp[aQ,aE,u1.pu,u2.pu],fun _ _=>rfl,fun n _=>u1.ak n,fun _ _=>rfl,fun n _=>u2.ak n⟩;exact cm _ _ (by simp only[go_sem,u1.ak,u2.ak])
def di.gen{v:AV}{a b:Rat}(h:di v a b):∃c1 c2 c3 c4 c5 c6 c7 c8,v=.agg [c1,c2,c3,c4,c5,c6,c7,c8]/\F8 c1 c2 c3 c4 c5 c6 c7 c8:=by
 obtain⟨s1,w1,s2,w2,s3,w3,s4,w4,rfl,h1,h2,h3,h4⟩:=h;have⟨l1,u1⟩:=h1.aM;have⟨l2,u2⟩:=h2.aM;have⟨l3,u3⟩:=h3.aM;have⟨l4,u4⟩:=h4.aM;refine⟨_,_,_,_,_,_,_,_,rfl,fun n hp=>?_,ayk u1 u2 u3 u4,fun hp ct id a b c d e f g h=>ayj u1 u2 u3 u4 hp ct id a b c d e f g h,fun ct=>by simp only[go_sem,yb,aR,u1.pu,u1.one,u2.pu,u2.one,u3.pu,u3.one,u4.pu,u4.one]⟩;exact cm _ _ (by simp only[go_sem,u1.ak,u2.ak,u3.ak,u4.ak])
section
variable {a b c d:AV}{cs:List AV}{l:List Rat}{x:Rat}
def QL:List AV->List Rat->Prop
 | [],[]=>True
 | a::b::c::d::r,x::l=>bE (.agg [a,b,c,d]) x/\QL r l
 | _,_=>False
def QL.nil:QL [] []:=trivial
def QL.cons{r:List AV}(h1:bE (.agg [a,b,c,d]) x)(h2:QL r l):QL (a::b::c::d::r) (x::l):=⟨h1,h2⟩
def QL.inv(h:QL cs (x::l)):∃a b c d r,cs=a::b::c::d::r/\bE (.agg [a,b,c,d]) x/\QL r l:=by
 match cs,h with
 | a::b::c::d::r,h=>exact⟨a,b,c,d,r,rfl,h.1,h.2⟩
def QL.NC(h:QL cs []):cs=[]:=by
 match cs,h with
 | [],_=>rfl
 | [_],h=>exact h.elim
 | [_,_],h=>exact h.elim
 | [_,_,_],h=>exact h.elim
 | _::_::_::_::_,h=>exact h.elim
def QL.len:∀{l:List Rat} {cs:List AV},QL cs l->cs.length=l.length*4
 | [],_,h=>by rw[h.NC];rfl
 | x::l,cs,h=>by
  obtain⟨a,b,c,d,r,rfl,_,h2⟩:=h.inv
  have:=h2.len
  grind
def F4.qV{c1 c2 c3 c4:AV}(g:F4 c1 c2 c3 c4):aQ c1=ycN/\aQ c2=ycN/\aQ c3=ycN/\aQ c4=ycN:=by
 have:=g.pu
 simpa only[aQ,aE,ud,ye] using this
def bE.f4(h:bE (.agg [a,b,c,d]) x):F4 a b c d:=by
 have⟨_,_,_,_,e,g⟩:=h.gen
 grind
def QL.c9:∀{l m:List Rat} {cs ds:List AV},QL cs l->QL ds m->QL (cs++ds) (l++m)
 | [],m,cs,ds,h,k=>by rw[h.NC];exact k
 | x::l,m,cs,ds,h,k=>by
  obtain⟨a,b,c,d,r,rfl,h1,h2⟩:=h.inv;exact⟨h1,h2.c9 k⟩
def QL.snoc(h:QL cs l)(k:bE (.agg [a,b,c,d]) x):QL (cs++[a,b,c,d]) (l++[x]):=h.c9 ⟨k,trivial⟩
def QL.get:∀{l:List Rat} {cs:List AV} {i:Nat},QL cs l->∀(hi:i<l.length),∃a b c d r,cs.drop (i*4)=a::b::c::d::r/\bE (.agg [a,b,c,d]) l[i]
 | [],_,i,_,hi=>absurd hi (uj i)
 | x::l,cs,0,h,hi=>by
  obtain⟨a,b,c,d,r,rfl,h1,_⟩:=h.inv
  grind
 | x::l,cs,i+1,h,hi=>by
  obtain⟨a,b,c,d,r,rfl,_,h2⟩:=h.inv;have⟨a',b',c',d',r',e,k⟩:=h2.get (i:=i) (by simpa using hi)
  grind
def kX(v:AV)(l:List Rat):Prop:=(v=.ab/\l=[])\/∃e cs,v=.ap e l.length cs/\QL cs l
section
variable {v:AV}{l:List Rat}{hp:Hp}
def kX.len(h:kX v l){hp:Hp}:iW hp 1 v=GW (.int .i64 (l.length:Nat)):=by
 rcases h with ⟨rfl,rfl⟩ | ⟨e,cs,rfl,h⟩<;>rfl
def kX.pu(h:kX v l):aQ v=ycN:=by
 rcases h with ⟨rfl,rfl⟩ | ⟨e,cs,rfl,h⟩<;>rfl
def kX.ak(h:kX v l)(n:Nat){hp:Hp}:freeze (n+1) hp v=GW (v,hp):=by
 rcases h with ⟨rfl,rfl⟩ | ⟨e,cs,rfl,h⟩<;>rfl
def kX.a6(h:kX v l){i:Nat}(hi:i<l.length):∃a b c d r,fc 4 i v=GW (.bN (a::b::c::d::r))/\bE (.agg [a,b,c,d]) l[i]:=by
 rcases h with ⟨rfl,rfl⟩ | ⟨e,cs,rfl,h⟩
 .grind
 .have ⟨a,b,c,d,r,e1,e2⟩:=h.get hi;refine⟨a,b,c,d,r,?_,e2⟩;rw[K0 e _ hi,e1]
def U4(e:Bool)(h:QL cs l):kX (.ap e l.length cs) l:=.inr ⟨e,cs,rfl,h⟩
end
def Sp(hp:Hp)(cs:List AV):fY hp 4 ycN (.bN cs)=gZ 4 ycN cs:=rfl
def eF(s:Rat)(l:List Rat):Rat:=l.foldl (·+·) s
def KL{s:Rat}{i:Nat}(h:i<l.length):eF s (l.take (i+1))=eF s (l.take i)+l[i]:=by
 rw[yS h];simp only[eF,List.foldl_append,List.foldl_cons,List.foldl_nil]
def VY{K:Nat}:∀{l:List Rat} {s:Rat} {M:Nat},Hq M s->(∀x,x∈l->Hq K x)->Hq (M+l.length*(K+1)) (eF s l)
 | [],s,M,hs,_=>by simpa[eF] using hs
 | x::l,s,M,hs,hl=>by
  have:=VY (l:=l) (hs.add (hl x wS)) (fun y hy=>hl y (wA _ hy))
  refine Hq.mono (m:=M+(x::l).length*(K+1)) this ?_;simp only[yx,wg];lia
def Qb{K M:Nat}{s:Rat}(hs:Hq M s)(hl:∀x,x∈l->Hq K x)(i:Nat):Hq (M+l.length*(K+1)) (eF s (l.take i)):=
 (VY hs (fun x hx=>hl x (List.mem_of_mem_take hx))).mono (by rw[yO];have:=yQ (K+1) (Nat.min_le_right i l.length);lia)
end
def aAE(h:Ck P L){s:List Nat}(h0:cK s=0):∃r,af P L 62 [.str s] r/\bE r (dM s):=by
 have⟨hR,_⟩:=CQ h0;have kr:=pN h0 (yz 2400);have hl:=E9 kr;have⟨r,e,hr⟩:=ZI h.toTx (a:=dM s) (by lia);rw[<-hR] at e;exact⟨r,e,hr⟩
section
variable {v:AV}{l:List (List Nat)}
def DJ:dR (.int .i64 1)=GW 1:=rfl
def acn:∀{ps:List (List AV)},(∀p,p∈ps->p.length=4)->ps.flatten.length=ps.length*4
 | [],_=>by simp
 | p::ps,h=>by
  have:=acn (ps:=ps) (fun q hq=>h q (wA _ hq))
  grind
def XY(v:AV)(l:List Rat):Prop:=∃cs,v=.ap ycN l.length cs/\QL cs l
def XY.fs{l:List Rat}(h:XY v l):kX v l:=by
 obtain⟨cs,rfl,h⟩:=h;exact U4 ycN h
def aAF(h:Ck P L)(OK:Has P L 88 Oa)(hv:bG v l)(hl:l.length<=1000000)(hc:∀s,s∈l->cK s=0):∃r,af P L 88 [v] r/\XY (shut r) (l.map dM):=by
 have zf:∀n,(yD (n+1) [AV.int .i64 0,.ab,.int .i64 0,.ab]).flatten=.int .i64 0:: .ab:: .int .i64 0:: .ab::(yD n [AV.int .i64 0,.ab,.int .i64 0,.ab]).flatten:=fun n=>by rw[wT,vS];rfl
 have zl:∀n,(yD n [AV.int .i64 0,.ab,.int .i64 0,.ab]).flatten.length=n*4:=fun n=>by
  rw[acn (fun p hp=>by rw[List.eq_of_mem_replicate hp];rfl),List.length_replicate]
 have key:=fk P L [3,9,10,11] Mw
  (fun k st=>∃(i:Nat) (qs:List AV),i+k=l.length/\QL qs ((l.take i).map dM)/\st=⟨[(3,.aq 0 0 l.length),(9,v),(10,aa l.length),(11,aa i)],[(0,.cells ycN ycN ycN 4 (qs++(yD (l.length-i) [AV.int .i64 0,.ab,.int .i64 0,.ab]).flatten))],1,0⟩)
  (fun ex st=>∃tm hp ct qs,QL qs (l.map dM)/\st=⟨tm,hp,ct,0⟩/\ex=.exit 0/\ai tm 3=.aq 0 0 l.length/\ax hp 0=GW (.cells ycN ycN ycN 4 qs)) ?_
 .unfold af;rw[aF OK];have mk:AH 0 4 64 [AV.int .i64 0,.ab,.int .i64 0,.ab] (GW l.length) (GW l.length)=GW (.aq 0 0 l.length,.cells ycN ycN ycN 4 (yD l.length [AV.int .i64 0,.ab,.int .i64 0,.ab]).flatten):=HZ (by omega) (by omega) (by rfl) (by rfl);simp only[go_sem,ya,yb,Oa,hv.len,Pu (show (0:Int)<=l.length by omega),wa,mk];generalize hq:D P L (.loop _ Mw) _=q;obtain⟨ex,st,rfl,tm,hp,ct,qs,Ef,rfl,rfl,t3,g0⟩:=aW hq (key l.length) ⟨0,[],by omega,trivial,by simp only[go_sem,ya,yb,ae,an hv.pu]<;>rfl⟩
  have jb:=Ef.len;rw[yv] at jb;refine⟨.cL ycN 4 l.length qs,?_,?_⟩
  .simp only [go_sem,yb,ae,t3,g0];exact Ez (CO _ _ _) jb (by decide)
  .exact ⟨qs,by rw[yv];rfl,Ef⟩
 .rintro k st ⟨i,qs,zE,Ef,rfl⟩;by_cases hi:i<l.length
  .left
   obtain⟨r,e2,hr⟩:=aAE h (hc _ (xq hi));have bR:=hr;obtain⟨r1,r2,r3,r4,rfl,gr⟩:=hr.gen;have lq:qs.length=i*4:=by rw[Ef.len,yv,yO,xA (by omega)]
   have pr:=gr.qV;have aU:∀(hp:Hp) (ct:Nat),dS hp ct 0 (i*4) 4 [r1,r2,r3,r4] (GW (.cells ycN ycN ycN 4 (qs++(yD (l.length-i) [AV.int .i64 0,.ab,.int .i64 0,.ab]).flatten)))=GW (.av [],aY hp 0 (.cells ycN ycN ycN 4 ((qs++[r1,r2,r3,r4])++(yD (l.length-(i+1)) [AV.int .i64 0,.ab,.int .i64 0,.ab]).flatten)),ct):=fun hp ct=>by
    rw[zn (by rfl) (by rw[yM,lq,zl];omega) (by simp[bY,gr.o1,gr.o2,gr.o3,gr.o4])];have hov:over (i*4) [r1,r2,r3,r4] (qs++(yD (l.length-i) [AV.int .i64 0,.ab,.int .i64 0,.ab]).flatten)=(qs++[r1,r2,r3,r4])++(yD (l.length-(i+1)) [AV.int .i64 0,.ab,.int .i64 0,.ab]).flatten:=by
     rw[show l.length-i=(l.length-(i+1))+1 by omega,zf];unfold over;rw[<-lq,uM,show qs.length+[r1,r2,r3,r4].length=qs.length+4 from rfl,<-vd,ue];rfl
    rw[hov];simp[aE,pr.1,pr.2.1,pr.2.2.1,pr.2.2.2]
   simp only[go_sem,ya,Mw,show (i:Int)<l.length by omega,hv.a6 hi,e2,a8,Pu (show (0:Int)<=i by omega),wa,dn 0 0 hi,yf,aU];refine⟨_,k-1,rfl,by omega,i+1,qs++[r1,r2,r3,r4],by omega,?_,?_⟩
   .rw [yS hi,xu];exact Ef.snoc bR
   .rw [wrap64 (by omega) (by omega)];simp only[go_sem,ya,yb,ae,an hv.pu]<;>rfl
  .right
   have:i=l.length:=by omega
   subst this;rw[yq (yz _)] at Ef;simp only[go_sem,ya,Mw,show ¬(l.length:Int)<l.length by omega,Nat.sub_self];exact⟨_,_,rfl,by simp,_,_,_,qs,Ef,rfl,rfl,by simp only[go_sem,ya],by simp only[go_sem];simp⟩
def m88(h:Ck P L)(OK:Has P L 88 Oa)(hv:bG v l)(hl:l.length<=1000000)(hc:∀s,s∈l->cK s=0):∃r,af P L 88 [v] r/\kX (shut r) (l.map dM):=by
 have⟨r,h1,h2⟩:=aAF h OK hv hl hc;exact⟨r,h1,h2.fs⟩
end
def di.mk{c1 c2 c3 c4 c5 c6 c7 c8:AV}{a b:Rat}(h1:bE (.agg [c1,c2,c3,c4]) a)(h2:bE (.agg [c5,c6,c7,c8]) b):di (.agg [c1,c2,c3,c4,c5,c6,c7,c8]) a b:=by
 obtain⟨s1,w1,s2,w2,e,n1,n2⟩:=h1;obtain⟨s3,w3,s4,w4,e',n3,n4⟩:=h2;simp only[AV.agg.injEq,xQ,wC] at e e';obtain⟨rfl,rfl,rfl,rfl⟩:=e;obtain⟨rfl,rfl,rfl,rfl⟩:=e';exact⟨_,_,_,_,_,_,_,_,rfl,n1,n2,n3,n4⟩
def di.two{v:AV}{a b:Rat}(h:di v a b):∃c1 c2 c3 c4 c5 c6 c7 c8,v=.agg [c1,c2,c3,c4,c5,c6,c7,c8]/\bE (.agg [c1,c2,c3,c4]) a/\bE (.agg [c5,c6,c7,c8]) b/\F8 c1 c2 c3 c4 c5 c6 c7 c8:=by
 obtain⟨s1,w1,s2,w2,s3,w3,s4,w4,rfl,n1,n2,n3,n4⟩:=h;obtain⟨_,_,_,_,_,_,_,_,e,g⟩:=di.gen ⟨s1,w1,s2,w2,s3,w3,s4,w4,rfl,n1,n2,n3,n4⟩;simp only[AV.agg.injEq,xQ,wC] at e;obtain⟨rfl,rfl,rfl,rfl,rfl,rfl,rfl,rfl⟩:=e;exact⟨_,_,_,_,_,_,_,_,rfl,⟨s1,w1,s2,w2,rfl,n1,n2⟩,⟨s3,w3,s4,w4,rfl,n3,n4⟩,g⟩
section
variable {tm:Env}{hp:Hp}
def Sq(tm:Env)(hp:Hp)(s:AV)(rs:List (Nat×Bool×Nat))(q:gL):gL:=match q with | some (v,au,aX)=>bif AA tm s rs||pK tm hp au rs then GW (v,au,aX) else none | none=>none
def H5{f:cw}{ct:Nat}(rs:List (Nat×Bool×Nat))(sz b:Nat)(x v:X):aZ P L f tm hp ct (.lP rs sz b x v)=Sq tm hp (az tm x) rs (cz tm hp ct (.c9 sz b x v)):=rfl
def PO{au:Hp}{s:AV}{rs:List (Nat×Bool×Nat)}{v:AV}{aX:Nat}(h:AA tm s rs=ycN):Sq tm hp s rs (GW (v,au,aX))=GW (v,au,aX):=by simp only[Sq,h,th,yC]
def Fa{f:cw}{ct:Nat}(n sz:Nat)(z:List AV)(ps:List (Nat×Nat×X)):aZ P L f tm hp ct (.nl n sz z ps)=rd hp ct (bg tm hp (.nl n sz z ps)):=rfl
end
def Qs{f:Nat->Int}{b:Int}{n:Nat}(hb:0<=b)(h:∀k,k<n-> -b<=f k/\f k<=b):∀m,m<=n-> -(b*m)<=mw f m/\mw f m<=b*m
 | 0,_=>by simp[mw]
 | m+1,hm=>by
  have ih:=Qs hb h m (by omega);have hk:=h m (by omega);simp only[mw];rw[show ((m+1:Nat):Int)=(m:Int)+1 by omega,yaY,Int.mul_one];omega
def lyT(w:AV)(hh sc st ox oy wx wy:List Nat):AV:=.agg [w,.str hh,.str sc,.str st,.str ox,.str oy,.str wx,.str wy]
noncomputable def aAG(s:List (List Int))(hh sc st ox oy wx wy:List Nat):Int:=cd [amG s,ahK hh 0,ahK sc 1,cK st,cd [cK ox,cK oy],cd [cK wx,cK wy]]
def ak8{a:Int}{l:List Int}:cd (a::l)=0↔a=0/\cd l=0:=by
 simp only[cd]
 grind
def pn(k:Nat)(v:AV)(ps:List (List AV)):Prop:=((v=.ab/\ps=[])\/∃e,v=.ap e ps.length ps.flatten)/\∀p,p∈ps->p.length=k
section
variable {k:Nat}{v:AV}{ps:List (List AV)}{hp:Hp}
def pn.len(h:pn k v ps){hp:Hp}:iW hp 1 v=GW (.int .i64 (ps.length:Nat)):=by
 rcases h.1 with ⟨rfl,rfl⟩ | ⟨e,rfl⟩<;>rfl
def pn.pu(h:pn k v ps):aQ v=ycN:=by
 rcases h.1 with ⟨rfl,rfl⟩ | ⟨e,rfl⟩<;>rfl
def pn.ak(h:pn k v ps)(n:Nat){hp:Hp}:freeze (n+1) hp v=GW (v,hp):=by
 rcases h.1 with ⟨rfl,rfl⟩ | ⟨e,rfl⟩<;>rfl
def aco:∀{ps:List (List AV)} {i:Nat},(∀p,p∈ps->p.length=k)->∀(hi:i<ps.length),∃rest,ps.flatten.drop (i*k)=ps[i]++rest
 | [],i,_,hi=>absurd hi (uj i)
 | p::ps,0,h,_=>⟨ps.flatten,by simp⟩
 | p::ps,i+1,h,hi=>by
  have⟨rest,e⟩:=aco (ps:=ps) (i:=i) (fun q hq=>h q (wA _ hq)) (by simpa using hi);refine⟨rest,?_⟩;rw[show (i+1)*k=p.length+i*k by rw[h p wS,wg];lia,vS,<-vd,ue,e]
  rfl
def pn.a6(h:pn k v ps){i:Nat}(hi:i<ps.length):∃rest,fc k i v=GW (.bN (ps[i]++rest)):=by
 obtain⟨rest,e⟩:=aco h.2 hi;refine⟨rest,?_⟩;rcases h.1 with ⟨rfl,rfl⟩ | ⟨b,rfl⟩
 .grind
 .rw [K0 b _ hi,e]
def asb(e:Bool)(h:∀p,p∈ps->p.length=k):pn k (.ap e ps.length ps.flatten) ps:=⟨.inr ⟨e,rfl⟩,h⟩
end
abbrev sS:=List Nat×List Nat
def sT(p:sS):List AV:=[.str p.1,.str p.2]
def fX(v:AV)(l:List sS):Prop:=pn 2 v (l.map sT)
structure Lay where
 w:AV
 s:List (List Int)
 hh:List Nat
 sc:List Nat
 st:List Nat
 ox:List Nat
 oy:List Nat
 wx:List Nat
 wy:List Nat
def Lay.cs(a:Lay):List AV:=[a.w,.str a.hh,.str a.sc,.str a.st,.str a.ox,.str a.oy,.str a.wx,.str a.wy]
def Lay.T(a:Lay):AV:=lyT a.w a.hh a.sc a.st a.ox a.oy a.wx a.wy
noncomputable def Lay.E(a:Lay):Int:=aAG a.s a.hh a.sc a.st a.ox a.oy a.wx a.wy
section
variable {v:AV}{hp:Hp}
def fX.len{l:List sS}(h:fX v l){hp:Hp}:iW hp 1 v=GW (.int .i64 (l.length:Nat)):=by
 have:=pn.len (hp:=hp) h;rwa[yv] at this
def fX.pu{l:List sS}(h:fX v l):aQ v=ycN:=pn.pu h
def fX.ak{l:List sS}(h:fX v l)(n:Nat){hp:Hp}:freeze (n+1) hp v=GW (v,hp):=pn.ak h n
def fX.a6{l:List sS}(h:fX v l){i:Nat}(hi:i<l.length):∃rest,fc 2 i v=GW (.bN (.str l[i].1:: .str l[i].2::rest)):=by
 have⟨rest,e⟩:=pn.a6 h (i:=i) (by simpa using hi);refine⟨rest,?_⟩;rw[e,List.getElem_map];rfl
end
def XZ(hp:Hp)(a b c d e f g i:AV)(r:List AV):fY hp 8 ycN (.bN (a::b::c::d::e::f::g::i::r))=GW (.agg [a,b,c,d,e,f,g,i]):=rfl
section
variable {v:AV}{l:List Rat}
def take_set{α:Type}{l:List α}{i:Nat}{a:α}(h:i<l.length):(l.set i a).take (i+1)=l.take i++[a]:=by
 rw[yS (by simpa using h),List.getElem_set_self,List.take_set_of_le (yz i)]
def stS{hp:Hp}{ct id o:Nat}{v:List Nat}{ex:Bool}{l:List (List Nat)}(h:o<l.length):dS hp ct id o 1 [.str v] (GW (.cells ycN ycN ex 1 (l.map .str)))=GW (.av [],aY hp id (.cells ycN ycN ex 1 ((l.set o v).map .str)),ct):=by
 rw[zn (by rfl) (by simp;lia) (by rfl)]
 have:over o [.str v] (l.map .str)=(l.set o v).map .str:=by
  simp only[over,yx,yN,yf];rw[yaH,vn,yK (by simpa using h)]
  simp
 rw[this];rfl
def aAH(ct:Nat){n:Nat}(h:n<=10000000000):AH ct 1 16 [.str []] (GW n) (GW n)=GW (.aq ct 0 n,.cells ycN ycN ycN 1 ((yD n []).map .str)):=by
 rw[HZ (sz:=1) (by lia) (by lia) (by rfl) (by rfl)]
 have:∀n,(yD n [AV.str []]).flatten=(yD n []).map .str:=fun n=>by
  induction n with
  | zero=>rfl
  | succ n ih=>rw[wT,vS,ih,wT,xi];rfl
 rw[this];rfl
def asc(l:List (List Nat)):bG (.ap ycN l.length (l.map .str)) l:=K4 ycN l
def aAI(h:Has P L 160 Iu)(hv:kX v l)(hl:l.length<=1000000){g:Nat}{p:Rat->Bool}(hg:∀w x,x∈l->bE w x->af P L g [w] (.bool (p x))):∃n:Int,af P L 160 [v,.fn (.f g) [] []] (aa n)/\decide (0<=n)=l.any p:=by
 have key:=fk P L [0,1,7,8] Hu
  (fun k s=>∃i:Nat,i+k=l.length/\(l.drop i).any p=l.any p/\s=⟨[(0,v),(1,.fn (.f g) [] []),(7,aa l.length),(8,aa i)],[],0,0⟩)
  (fun ex s=>∃tm hp ct,s=⟨tm,hp,ct,0⟩/\((∃n:Int,ex=.ret/\ai tm 4=aa n/\0<=n/\l.any p=ycN)\/(ex=.exit 0/\l.any p=ycO))) ?_
 .unfold af;rw[aF h];simp only[go_sem,ya,Iu,hv.len];generalize hq:D P L (.loop _ Hu) _=q;obtain⟨ex,s,rfl,tm,hp,ct,rfl,h2⟩:=aW hq (key l.length) ⟨0,by lia,rfl,by simp only[go_sem,ya,ae,an hv.pu]<;>rfl⟩
  rcases h2 with ⟨n,rfl,h2,h3,h4⟩ | ⟨rfl,h2⟩
  .exact ⟨n,by simp only[go_sem,h2]<;>rfl,by rw[h4];simpa using h3⟩
  .exact ⟨-1,by simp only[go_sem,ae]<;>rfl,by rw[h2];decide⟩
 .rintro k s ⟨i,hk,hf,rfl⟩;by_cases hi:i<l.length
  .have dP:(i:Int)<l.length:=by lia
   have⟨a,b,c,d,r,e1,hx⟩:=hv.a6 hi;have e2:=hg _ _ (xq hi) hx;have gx:=hx.f4;rw[apu hi] at hf
   cases ej:p l[i] with
   | false=>
    left
    rw[ej] at e2;simp only[go_sem,ya,Hu,dP,e1,Sp,eL,gx.ak,e2];rw[ej,uJ] at hf;refine⟨_,k-1,rfl,by lia,i+1,by lia,hf,?_⟩;rw[wrap64 (by lia) (by lia)];simp only[go_sem,ya,ae,an hv.pu]<;>rfl
   | true=>
    right
    rw[ej] at e2;simp only[go_sem,ya,Hu,dP,e1,Sp,eL,gx.ak,e2];refine⟨_,_,rfl,by simp,_,_,_,rfl,.inl ⟨i,rfl,?_,by lia,?_⟩⟩
    .simp only [go_sem]
    .rw [<-hf,ej,th]
  .right
   simp only[go_sem,ya,Hu,show ¬(i:Int)<l.length by lia];refine⟨_,_,rfl,by simp,_,_,_,rfl,.inr ⟨rfl,?_⟩⟩;rw[<-hf,yZ (by lia)];rfl
def aAJ(h:Has P L 122 MO)(IT:Has P L 160 Iu)(hv:kX v l)(hl:l.length<=1000000){g:Nat}{p:Rat->Bool}(hg:∀w x,x∈l->bE w x->af P L g [w] (.bool (p x))):af P L 122 [v,.fn (.f g) [] []] (.bool (l.any p)):=by
 have⟨n,e1,e2⟩:=aAI IT hv hl hg;unfold af at e1 ⊢;rw[aF h];simp only[go_sem,ya,MO,hv.ak,e1,e2]
def aAK(h:Has P L 123 MP)(hT:Tx P L){K:Nat}(hv:kX v l)(hl:l.length<=1000000)(hk:∀x,x∈l->Hq K x)(hK:K<=4000000000):∃r,af P L 123 [v] r/\bG (shut r) (l.map RT):=by
 have key:=fk P L [3,9,10,11] Li
  (fun k st=>∃(i:Nat) (out:List (List Nat)),i+k=l.length/\out.length=l.length/\out.take i=(l.take i).map RT/\st=⟨[(3,.aq 0 0 l.length),(9,v),(10,aa l.length),(11,aa i)],[(0,.cells ycN ycN ycN 1 (out.map .str))],1,0⟩)
  (fun ex st=>∃tm hp ct,st=⟨tm,hp,ct,0⟩/\ex=.exit 0/\ai tm 3=.aq 0 0 l.length/\ax hp 0=GW (.cells ycN ycN ycN 1 ((l.map RT).map .str))) ?_
 .unfold af;rw[aF h];simp only[go_sem,ya,yb,MP,hv.len,Pu (show (0:Int)<=l.length by lia),wa,aAH 0 (show l.length<=10000000000 by lia)];generalize hq:D P L (.loop _ Li) _=q;obtain⟨ex,st,rfl,tm,hp,ct,rfl,rfl,t3,g0⟩:=aW hq (key l.length) ⟨0,yD l.length [],by lia,by simp,by simp,by simp only[go_sem,ya,yb,ae,an hv.pu]<;>rfl⟩
  refine⟨.cL ycN 1 l.length ((l.map RT).map .str),?_,?_⟩
  .simp only [go_sem,yb,ae,t3,g0];exact Ez (CO _ _ _) (by simp) (by decide)
  .have:=asc (l.map RT)
   rwa[yv] at this
 .rintro k st ⟨i,out,zE,hlen,Io,rfl⟩;by_cases hi:i<l.length
  .left
   have⟨a,b,c,d,r,e1,hx⟩:=hv.a6 hi;have e2:=ZC hT hx (hk _ (xq hi)) hK;have gx:=hx.f4;unfold af at e2
   simp only[go_sem,ya,yb,yi,Li,show (i:Int)<l.length by lia,e1,Sp,aR,gx.st,eL,gx.ak,yg,e2,Pu (show (0:Int)<=i by lia),wa,dn 0 0 hi,yf,stS (l:=out) (o:=i) (by lia)];refine⟨_,k-1,rfl,by lia,i+1,out.set i (RT l[i]),by lia,by simpa using hlen,?_,?_⟩
   .rw [take_set (by lia),Io,yS hi,xu];rfl
   .rw [wrap64 (by lia) (by lia)];simp only[go_sem,ya,yb,ae,an hv.pu]<;>rfl
  .right
   have:i=l.length:=by lia
   subst this;rw[yq (by lia),yq (yz _)] at Io;subst Io;simp only[go_sem,ya,Li,show ¬(l.length:Int)<l.length by lia];exact⟨_,_,rfl,by simp,_,_,_,rfl,rfl,rfl,rfl⟩
end
noncomputable def Lay.low(sh:List Nat)(a:Lay):Bool:=avG (dM sh) (dM a.hh)
def KA{α:Type}{f:α->Int}:∀{l:List α},cd (l.map f)=0->∀a,a∈l->f a=0
 | [],_,_,h=>by cases h
 | x::l,h,a,ha=>by
  rw[xi,ak8] at h;rcases xx.1 ha with rfl | ha
  .grind
  .exact KA h.2 a ha
def aAL(h:Has P L 692 Dt)(b:Bool)(n:Int):af P L 692 [.bool b,aa n] (aa (if b=ycN then n else 0)):=by
 unfold af;rw[aF h]
 cases b with
 | true=>simp only[go_sem,ya,Dt,xS]
 | false=>simp only[go_sem,ya,Dt];rfl
def ahL(ND:Has P L 686 Na)(Sr:Has P L 122 MO)(Ss:Has P L 123 MP)(IT:Has P L 160 Iu)(hT:Tx P L){v:AV}{l:List Rat}{K:Nat}(hv:kX v l)(hl:l.length<=1000000)(hk:∀x,x∈l->Hq K x)(hK:K<=4000000000):
  (l.any LG=ycN->af P L 686 [v] (.av [.ab,aa 4]))/\(l.any LG=ycO->∃r,bG r (l.map RT)/\af P L 686 [v] (.av [r,aa 0])):=by
 have e1:=aAJ Sr IT hv hl (g:=107) (p:=LG) (fun w x hx hw=>az5 hT hw (hk x hx) hK);obtain⟨r,e2,hr⟩:=aAK Ss hT hv hl hk hK;unfold af at e1 e2 ⊢;constructor
 .intro ha;rw[ha] at e1;rw[aF ND];simp only[go_sem,ya,Na,hv.ak,e1]
 .intro ha;rw[ha] at e1;refine⟨_,hr,?_⟩;rw[aF ND];simp only[go_sem,ya,Na,hv.ak,e1,e2];rcases hr with ⟨hr,_⟩ | ⟨e,hr⟩<;>rw[hr]<;>rfl
def jX(e:Int):Int:=if e%4=0 then 1 else if e%4=2 then -1 else 0
def jY(e:Int):Int:=if e%4=1 then 1 else if e%4=3 then -1 else 0
def sU(x y e:Int):Int:=x*jX e-y*jY e
def sW(x y e:Int):Int:=x*jY e+y*jX e
def ED(e:Int):(e%4=0/\jX e=1/\jY e=0)\/(e%4=1/\jX e=0/\jY e=1)\/(e%4=2/\jX e= -1/\jY e=0)\/(e%4=3/\jX e=0/\jY e= -1):=by
 have:e%4=0\/e%4=1\/e%4=2\/e%4=3:=by omega
 rcases this with h | h | h | h
 .exact .inl ⟨h,by unfold jX;rw[h];rfl,by unfold jY;rw[h];rfl⟩
 .exact .inr (.inl ⟨h,by unfold jX;rw[h];rfl,by unfold jY;rw[h];rfl⟩)
 .exact .inr (.inr (.inl ⟨h,by unfold jX;rw[h];rfl,by unfold jY;rw[h];rfl⟩))
 .exact .inr (.inr (.inr ⟨h,by unfold jX;rw[h];rfl,by unfold jY;rw[h];rfl⟩))
def G9{x y B:Int}(e:Int)(hx: -B<=x/\x<=B)(hy: -B<=y/\y<=B):(-B<=sU x y e/\sU x y e<=B)/\(-B<=sW x y e/\sW x y e<=B):=by
 unfold sU sW;rcases ED e with ⟨_,h1,h2⟩ | ⟨_,h1,h2⟩ | ⟨_,h1,h2⟩ | ⟨_,h1,h2⟩<;>rw[h1,h2]<;>omega
def iw{z:Int}(h:z.natAbs<2^40):Hq 40 (z:Rat):=by
 refine⟨?_,?_⟩
 .rw [Rat.num_intCast];unfold Bd;omega
 .rw [Rat.den_intCast];unfold Bd;decide
def ahM(h:Has P L 701 Du){n:Int}:af P L 701 [aa n,aa 4] (aa (n%4)):=by
 unfold af;rw[aF h];have h2:n.tmod 4<4:=Int.tmod_lt_of_pos n (by decide);have h3: -4<n.tmod 4:=by
  have h:=Int.lt_tmod_of_pos n (show (0:Int)<4 by decide);omega
 simp only[go_sem,ya,Du,fF _ _ _ (show (4:Int)≠0 by decide),wrap64 (n:=n.tmod 4+4) (by omega) (by omega),adZ (show (0:Int)<4 by decide)]
def aAM(h:Fr' P L)(X0:Has P L 710 R2){v w:AV}{a b c d:Rat}{K:Nat}(hv:di v a b)(hw:di w c d)(ka:Hq K a)(kb:Hq K b)(kc:Hq K c)(kd:Hq K d)(hK:K<=1000):∃r,af P L 710 [v,w] r/\di r (a+c) (b+d):=by
 obtain⟨v1,v2,v3,v4,v5,v6,v7,v8,rfl,p1,p2,gv⟩:=hv.two;obtain⟨w1,w2,w3,w4,w5,w6,w7,w8,rfl,q1,q2,gw⟩:=hw.two;obtain⟨x,e1,hx⟩:=GD h p1 q1 ka kc (by omega);obtain⟨y,e2,hy⟩:=GD h p2 q2 kb kd (by omega);obtain⟨x1,x2,x3,x4,rfl,gx⟩:=hx.gen;obtain⟨y1,y2,y3,y4,rfl,gy⟩:=hy.gen;have hr:=di.mk hx hy;obtain⟨_,_,_,_,_,_,_,_,er,_,_,gr⟩:=hr.two;simp only[AV.agg.injEq,xQ,wC] at er;obtain⟨rfl,rfl,rfl,rfl,rfl,rfl,rfl,rfl⟩:=er;have f1:=p1.f4;have f2:=p2.f4;have f3:=q1.f4;have f4:=q2.f4;refine⟨_,?_,hr⟩;unfold af at e1 e2 ⊢;rw[aF X0];simp only[go_sem,ya,yb,R2,gv.bx,gw.bx,aR,bH,yf,yg,Hh,eL,f1.ak,f2.ak,f3.ak,f4.ak,e1,e2,a8,rA gx.o1 gx.o2 gx.o3 gx.o4,rB gy.o1 gy.o2 gy.o3 gy.o4,gr.st,cX,cZ,Az,gr.eG]
def aAN(h:Fr' P L)(AN:Has P L 701 Du)(IU:Has P L 709 FW){v:AV}{x y:Int}(e:Int)(hv:di v (x:Rat) (y:Rat))(kx:x.natAbs<2^40)(ky:y.natAbs<2^40):∃r,af P L 709 [v,aa e] r/\di r (sU x y e:Rat) (sW x y e:Rat):=by
 obtain⟨v1,v2,v3,v4,v5,v6,v7,v8,rfl,p1,p2,gv⟩:=hv.two;obtain⟨a,e1,ha⟩:=XE h p1 (iw kx) (by decide);obtain⟨b,e2,hb⟩:=XE h p2 (iw ky) (by decide);obtain⟨a1,a2,a3,a4,rfl,ga⟩:=ha.gen;obtain⟨b1,b2,b3,b4,rfl,gb⟩:=hb.gen;have e3:=ahM AN (n:=e);have f1:=p1.f4;have f2:=p2.f4;have key:∀{c1 c2 c3 c4 d1 d2 d3 d4:AV} {z w:Rat},bE (.agg [c1,c2,c3,c4]) z->bE (.agg [d1,d2,d3,d4]) w->F8 c1 c2 c3 c4 d1 d2 d3 d4:=fun hc hd=>by
  obtain⟨_,_,_,_,_,_,_,_,er,_,_,gr⟩:=(di.mk hc hd).two;simp only[AV.agg.injEq,xQ,wC] at er;obtain⟨rfl,rfl,rfl,rfl,rfl,rfl,rfl,rfl⟩:=er;exact gr
 unfold af at e1 e2 e3;unfold sU sW;rcases ED e with ⟨h0,h1,h2⟩ | ⟨h0,h1,h2⟩ | ⟨h0,h1,h2⟩ | ⟨h0,h1,h2⟩<;>rw[h0] at e3<;>rw[h1,h2]
 .refine ⟨.agg [v1,v2,v3,v4,v5,v6,v7,v8],?_,by simpa using hv⟩;unfold af;rw[aF IU];simp only[go_sem,ya,yb,FW,gv.bx,aR,e3,show decide ((0:Int)=1)=ycO from rfl,show decide ((0:Int)=2)=ycO from rfl,show decide ((0:Int)=3)=ycO from rfl,yg,Az,gv.st,cX,cZ,gv.eG]
 .have g:=key hb p1;refine⟨_,?_,(by simpa using di.mk hb p1)⟩;unfold af;rw[aF IU];simp only[go_sem,ya,yb,FW,gv.bx,aR,e3,bH,yf,yg,Hh,eL,f2.ak,e2,a8,rA gb.o1 gb.o2 gb.o3 gb.o4,rB f1.o1 f1.o2 f1.o3 f1.o4,g.st,cX,cZ,Az,g.eG]
 .have g:=key ha hb;refine⟨_,?_,(by simpa using di.mk ha hb)⟩;unfold af;rw[aF IU];simp only[go_sem,ya,yb,FW,gv.bx,aR,e3,show decide ((2:Int)=1)=ycO from rfl,bH,yf,yg,Hh,eL,f1.ak,f2.ak,e1,e2,a8,rA ga.o1 ga.o2 ga.o3 ga.o4,rB gb.o1 gb.o2 gb.o3 gb.o4,g.st,cX,cZ,Az,g.eG]
 .have g:=key p2 ha;refine⟨_,?_,(by simpa using di.mk p2 ha)⟩;unfold af;rw[aF IU];simp only[go_sem,ya,yb,FW,gv.bx,aR,e3,show decide ((3:Int)=1)=ycO from rfl,show decide ((3:Int)=2)=ycO from rfl,bH,yf,yg,Hh,eL,f1.ak,e1,a8,rA f2.o1 f2.o2 f2.o3 f2.o4,rB ga.o1 ga.o2 ga.o3 ga.o4,g.st,cX,cZ,Az,g.eG]
section
variable {e:Int}{m:Nat}
def ahN(a b:Nat)(h:a<b):2^a<2^b:=vX (by decide) h
def ahO(a b:Nat)(h:2^a<2^b):a<b:=(ug (by decide)).1 h
def avH(m a b c:Nat)(h:m<2^a)(hc:a+b=c):m*2^b<2^c:=by
 subst hc;rw[xL];exact xZ h (xr _)
def avI(m a b c:Nat)(h:2^a<=m)(hc:c<=a+b):2^c<=m*2^b:=
 xn (xe (by decide) hc) (by rw[xL];exact yQ _ h)
open Ieee
def p2(e:Int):Rat:=(2:Rat)^e
def kO(a b:Int):p2 (a+b)=p2 a*p2 b:=Rat.zpow_add (by decide) a b
def VZ(e:Int):0<p2 e:=Rat.zpow_pos (by decide)
def WH(e:Int):p2 e≠0:=fun h=>by have:=VZ e;rw[h] at this;exact absurd this (by decide)
def mf(n:Nat):p2 n=((2^n:Nat):Rat):=by
 unfold p2;rw[Rat.zpow_natCast,Rat.natCast_pow];rfl
def DD:p2 0=1:=by have:=mf 0;simpa using this
def B6:p2 1=2:=by have:=mf 1;simpa using this
def V1(e:Int):p2 (-e)*p2 e=1:=by rw[<-kO,show -e+e=0 by omega,DD]
structure Can(f:Format)(m:Nat)(e:Int):Prop where
 lp:f.leastPlace<=e
 lt:m<2^(f.fractionBits+1)
 ge:2^f.fractionBits<=m\/e=f.leastPlace
def gY(f:Format)(m:Nat)(e:Int):Nat:=(e-f.leastPlace).toNat*2^f.fractionBits+m
def avJ(f:Format):f.infRung<f.signWeight:=by
 have h:0<2^f.exponentBits:=xr _;have hb:0<2^f.fractionBits:=xr _;unfold Format.infRung Format.signWeight Format.binade;rw[xL];exact xZ (by omega) hb
def anK{f:Format}(h:Can f m e)(s:Bool)(hr:gY f m e<f.infRung):f.read (f.word s (gY f m e))=.number s m e:=by
 have nA:=avJ f;have hb:0<2^f.fractionBits:=xr _;have lp:=h.lp;have lt:=h.lt;have ge:=h.ge;rw[xt] at lt;have gg:(f.word s (gY f m e)/f.signWeight%2==1)=s:=by
  unfold Format.word
  cases s with
  | true=>rw[yK rfl,Nat.add_div_left _ (by omega),xW (by omega)];rfl
  | false=>rw[yI (by decide),xW (by omega)];rfl
 have rX:f.word s (gY f m e)%f.signWeight=gY f m e:=by
  unfold Format.word
  cases s with
  | true=>rw[yK rfl,Nat.add_mod_left,yY (by omega)]
  | false=>rw[yI (by decide),yY (by omega)]
 unfold Format.read;simp only[gg,rX];obtain⟨d,hd⟩:∃d:Nat,e=f.leastPlace+d:=⟨(e-f.leastPlace).toNat,by omega⟩;have eT:gY f m e=d*2^f.fractionBits+m:=by unfold gY;rw[hd,show (f.leastPlace+(d:Int)-f.leastPlace).toNat=d by omega]
 unfold Format.binade;by_cases c:gY f m e<2^f.fractionBits
 .rw [yK c];have iA:d=0:=by
   rcases ge with ge | ge
   .exfalso
    have:=tk (d*2^f.fractionBits)
    omega
   .omega
  subst iA;rw[ve,yf] at eT;rw[eT,hd,Int.natCast_zero,yaz]
 .rw [yI c,yK hr];have hm:2^f.fractionBits<=m:=by
   rcases ge with ge | ge
   .exact ge
   .have:d=0:=by omega
    subst this;rw[ve,yf] at eT;omega
  obtain⟨x,hx⟩:∃x,m=2^f.fractionBits+x:=⟨m-2^f.fractionBits,by omega⟩;have hdiv:gY f m e/2^f.fractionBits=d+1:=by
   rw[eT,hx,<-tG,<-ycq,xz,tV hb,xW (by omega)]
  have DN:gY f m e%2^f.fractionBits=x:=by
   rw[eT,hx,<-tG,<-ycq,xz,tW,yY (by omega)]
  rw[hdiv,DN,hx,hd,show d+1-1=d by omega]
def acp{n d:Nat}{neg:Bool}:Toward.even.cut neg (n*2^d) d=n:=by
 unfold Toward.cut;by_cases h0:n=0
 .subst h0
  simp
 .have hl:d<=(n*2^d).log2:=(ycC (tv (vM (by omega) (xr _)))).2 (tT _ (by omega));have hp:0<2^d:=xr _;rw[xA (by omega),ybx];simp only[tg,uR _ hp,xI];have h1:decide (2^d<0)=ycO:=by simp
  have h2:((2^d==0):Bool)=ycO:=by simpa using tv hp
  simp[h2]
def TK{n:Nat}(h:n≠0):∀d,(n*2^d).log2=n.log2+d
 | 0=>by simp
 | d+1=>by
  rw[xt,<-xm,xz (n*2^d) 2,Nat.log2_two_mul (tv (vM (by omega) (xr _))),TK h d];omega
def Can.last{f:Format}(h:Can f m e)(h0:m≠0):max (e+m.log2-f.fractionBits) f.leastPlace=e:=by
 have lp:=h.lp;have h1:m.log2<f.fractionBits+1:=(yba h0).2 h.lt;rcases h.ge with g | g
 .have:=(ycC h0).2 g
  omega
 .omega
def apV{f:Format}(h:Can f m e)(h0:m≠0){m0:Nat}{e0:Int}(s:Bool)(hv:(m0:Rat)*p2 e0=(m:Rat)*p2 e):f.nearest s m0 e0=f.word s (min (gY f m e) f.infRung):=by
 have hl:=h.last h0;have lp:=h.lp;by_cases c:e0<=e
 .obtain ⟨d,hd⟩:∃d:Nat,e=e0+d:=⟨(e-e0).toNat,by omega⟩;have hm:m0=m*2^d:=by
   rw[hd,kO,mf] at hv;have h1:(m0:Rat)=((m*2^d:Nat):Rat):=by
    rw[xV];have h2:p2 e0*p2 (-e0)=1:=by rw[ycr];exact V1 e0
    have h3:(m0:Rat)*p2 e0*p2 (-e0)=(m:Rat)*(p2 e0*((2^d:Nat):Rat))*p2 (-e0):=congrArg (·*p2 (-e0)) hv;rw[vG,h2,vN] at h3;rw[h3]
    have:(m:Rat)*(p2 e0*((2^d:Nat):Rat))*p2 (-e0)=(m:Rat)*((2^d:Nat):Rat)*(p2 e0*p2 (-e0)):=by grind
    rw[this,h2,vN]
   exact_mod_cast h1
  have sR:m0≠0:=by rw[hm];exact tv (vM (by omega) (xr _))
  unfold Format.nearest;rw[yI sR];have rP:max (e0+m0.log2-f.fractionBits) f.leastPlace=e:=by
   rw[hm,TK h0,<-hl];omega
  dsimp only
  rw[rP];rw[show (e0-e).toNat=0 by omega,Nat.shiftLeft_zero,show (e-e0).toNat=d by omega,hm,acp];rfl
 .obtain ⟨d,hd⟩:∃d:Nat,e0=e+d:=⟨(e0-e).toNat,by omega⟩;have hm:m=m0*2^d:=by
   rw[hd,kO,mf] at hv;have h1:(m:Rat)=((m0*2^d:Nat):Rat):=by
    rw[xV];have h2:p2 e*p2 (-e)=1:=by rw[ycr];exact V1 e
    have h3:(m0:Rat)*(p2 e*((2^d:Nat):Rat))*p2 (-e)=(m:Rat)*p2 e*p2 (-e):=congrArg (·*p2 (-e)) hv;have h4:(m:Rat)*p2 e*p2 (-e)=m:=by rw[vG,h2,vN]
    rw[h4] at h3;rw[<-h3]
    have:(m0:Rat)*(p2 e*((2^d:Nat):Rat))*p2 (-e)=(m0:Rat)*((2^d:Nat):Rat)*(p2 e*p2 (-e)):=by grind
    rw[this,h2,vN]
   exact_mod_cast h1
  have sR:m0≠0:=fun q=>by rw[q,ve] at hm;exact h0 hm
  unfold Format.nearest;rw[yI sR];have rP:max (e0+m0.log2-f.fractionBits) f.leastPlace=e:=by
   rw[hm,TK sR] at hl;rw[<-hl];omega
  dsimp only
  rw[rP];rw[show (e0-e).toNat=d by omega,show (e-e0).toNat=0 by omega,tf,<-hm]
  have:=acp (n:=m) (d:=0) (neg:=s)
  rw[ux,yi] at this;rw[this];rfl
end
section
open Ieee
structure OL(f:Format)(b:Nat)(s:Bool)(m:Nat)(e:Int):Prop where
 can:Can f m e
 lt:gY f m e<f.infRung
 eq:b=f.word s (gY f m e)
def OL.read{f:Format}{b:Nat}{s:Bool}{m:Nat}{e:Int}(h:OL f b s m e):f.read b=.number s m e:=by
 rw[h.eq];exact anK h.can s h.lt
def sg(s:Bool):Rat:=if s then -1 else 1
def fv(s:Bool)(m:Nat)(e:Int):Rat:=sg s*((m:Rat)*p2 e)
def asd{f:Format}{m:Nat}{e:Int}(h:Can f m e)(he:(e-f.leastPlace).toNat+2<=2^f.exponentBits-1):gY f m e<f.infRung:=by
 have aH:=h.lt;rw[xt] at aH;unfold gY Format.infRung Format.binade
 have:=yQ (2^f.fractionBits) he
 rw[wg] at this;omega
def avK{f:Format}{n:Nat}{k:Int}(h0:n≠0)(hn:n<2^(f.fractionBits+1))(hk:f.leastPlace<=k):∃m e,Can f m e/\m≠0/\e<=k/\(m:Rat)*p2 e=(n:Rat)*p2 k:=by
 have hl:=(yba h0).2 hn;obtain⟨j,hj⟩:∃j:Nat,j=min (f.fractionBits-n.log2) (k-f.leastPlace).toNat:=⟨_,rfl⟩;have h1:2^n.log2<=n:=Nat.log2_self_le h0;have h2:n<2^(n.log2+1):=ybC;refine⟨n*2^j,k-j,⟨by omega,?_,?_⟩,tv (vM (by omega) (xr _)),by omega,?_⟩
 .have:n*2^j<2^(n.log2+1)*2^j:=xZ h2 (xr _)
  rw[<-xL] at this;exact yR this (xe (by decide) (by omega))
 .by_cases c:f.fractionBits-n.log2<=(k-f.leastPlace).toNat
  .left
   have:=yQ (2^j) h1
   rw[<-xL,show n.log2+j=f.fractionBits by omega] at this;exact this
  .right;omega
 .rw [xV,<-mf,vG,<-kO,show (j:Int)+(k-j)=k by omega]
def wr{f:Format}{n:Nat}{k:Int}(h0:n≠0)(hn:n<2^(f.fractionBits+1))(hk:f.leastPlace<=k)(zJ:(k-f.leastPlace).toNat+2<=2^f.exponentBits-1){m0:Nat}{e0:Int}(s:Bool)(hv:(m0:Rat)*p2 e0=(n:Rat)*p2 k):∃m e,OL f (f.write (.number s m0 e0)) s m e/\m≠0/\(m:Rat)*p2 e=(n:Rat)*p2 k:=by
 obtain⟨m,e,hc,hm,he,hq⟩:=avK h0 hn hk;have hr:=asd hc (by have:=hc.lp;omega);refine⟨m,e,⟨hc,hr,?_⟩,hm,hq⟩;show f.nearest s m0 e0=_
 rw[apV hc hm s (hv.trans hq.symm),xA (by omega)]
def agf(f:Format):Can f 0 f.leastPlace:=⟨Int.le_refl _,xr _,.inr rfl⟩
def wr0{f:Format}(s:Bool)(e0:Int)(hi:0<f.infRung):OL f (f.write (.number s 0 e0)) s 0 f.leastPlace:=by
 have hr:gY f 0 f.leastPlace=0:=by unfold gY;rw[Int.sub_self];simp
 refine⟨agf f,by rw[hr];exact hi,?_⟩
 rw[hr];show f.nearest s 0 e0=_
 unfold Format.nearest;rw[yK rfl]
end
section
open Ieee
section
variable {s:Bool}{e:Int}{m:Nat}
abbrev po(b:Nat)(s:Bool)(m:Nat)(e:Int):Prop:=OL single b s m e
def Kn:single.leastPlace= -149:=by decide
def po.b{b:Nat}(h:po b s m e): -149<=e/\m<16777216/\(8388608<=m\/e= -149)/\e<=104:=by
 have h1:=h.can.lp;have h2:=h.can.lt;have h3:=h.can.ge;have h4:=h.lt;rw[Kn] at h1 h3;have h4:(e-single.leastPlace).toNat*8388608+m<2139095040:=h4;rw[Kn] at h4;have h2:m<16777216:=h2;have h3:8388608<=m\/e= -149:=h3;exact⟨h1,h2,h3,by omega⟩
def Ko{n:Nat}{k:Int}(h0:n≠0)(hn:n<16777216)(hk: -149<=k)(zJ:k<=104){m0:Nat}{e0:Int}(s:Bool)(hv:(m0:Rat)*p2 e0=(n:Rat)*p2 k):∃m e,po (single.write (.number s m0 e0)) s m e/\m≠0/\(m:Rat)*p2 e=(n:Rat)*p2 k:=
 wr (f:=single) h0 hn (by rw[Kn];exact hk) (by rw[Kn];show _<=255;omega) s hv
def X1(s:Bool)(e0:Int):po (single.write (.number s 0 e0)) s 0 (-149):=by
 have:=wr0 (f:=single) s e0 (by decide)
 rwa[Kn] at this
def agh:single.read 1073741824=.number ycO 8388608 (-22):=by decide
def X2{b:Nat}(h:po b s m e)(he:e<=103\/m=0):∃b' m' e',single.mul b 1073741824=GW b'/\po b' s m' e'/\(m':Rat)*p2 e'=2*((m:Rat)*p2 e):=by
 obtain⟨b1,b2,b3,b4⟩:=h.b;have hr:=h.read;unfold Format.mul;rw[hr,agh];show ∃b' m' e',GW (single.write (.number (s^^ycO) (m*8388608) (e+ -22)))=GW b'/\_
 rw[ybH];by_cases h0:m=0
 .subst h0;rw[ve];exact⟨_,_,_,rfl,X1 s _,by simp⟩
 .obtain ⟨m',e',k1,k2,k3⟩:=Ko (n:=m) (k:=e+1) h0 b2 (by omega) (by omega) (m0:=m*8388608) (e0:=e+ -22) s (by
   have:((8388608:Nat):Rat)=p2 23:=(mf 23).symm
   rw[xV,this,vG,<-kO,show (23:Int)+(e+ -22)=e+1 by omega])
  exact⟨_,m',e',rfl,k1,by rw[k3,kO,B6];grind⟩
def X3{b:Nat}(h:po b s m e)(he: -148<=e\/m%2=0):∃b' m' e',single.div b 1073741824=GW b'/\po b' s m' e'/\2*((m':Rat)*p2 e')=(m:Rat)*p2 e:=by
 obtain⟨b1,b2,b3,b4⟩:=h.b;have hr:=h.read;unfold Format.div;rw[hr,agh];have hl:(8388608:Nat).log2=23:=by decide
 have e0:Datum.quotient (single.fractionBits+2) (.number s m e) (.number ycO 8388608 (-22))=GW (.number (s^^ycO) (2*((m<<<(25+23-m.log2))/8388608)+((m<<<(25+23-m.log2))%8388608 !=0).toNat) (e - -22-(25+23-m.log2:Nat)-1)):=by
  show (if (8388608:Nat)=0 then (if m=0 then none else GW (Datum.infinity (s^^ycO))) else GW (Datum.number (s^^ycO) (2*((m<<<(25+ybS 8388608-m.log2))/8388608)+((m<<<(25+ybS 8388608-m.log2))%8388608 !=0).toNat) (e - -22-((25+ybS 8388608-m.log2:Nat):Int)-1)))=_
  rw[yI (by decide),hl]
 rw[e0,ybH];show ∃b' m' e',GW (single.write (.number s _ _))=GW b'/\_
 by_cases h0:m=0
 .subst h0;simp only[Nat.zero_shiftLeft,Nat.zero_div,Nat.zero_mod,xI];exact⟨_,_,_,rfl,X1 s _,by simp⟩
 .have DM:m.log2<24:=(yba h0).2 b2;obtain⟨t,ht⟩:∃t,25+23-m.log2=t+23:=⟨25-m.log2,by omega⟩;have jU:m<<<(t+23)=(m*2^t)*8388608:=by rw[tf,xL,<-xm]
  rw[ht,jU,uR _ (by decide),tg];simp only[bne_self_eq_false,yby,xd];have aO:((2*(m*2^t):Nat):Rat)*p2 (e - -22-(t+23:Nat)-1)=(m:Rat)*p2 (e-1):=by
   have:((2:Nat):Rat)=p2 1:=(mf 1).symm
   rw[xV,xV,<-mf,this];have h2:p2 1*((m:Rat)*p2 t)*p2 (e - -22-(t+23:Nat)-1)=(m:Rat)*(p2 1*p2 t*p2 (e - -22-(t+23:Nat)-1)):=by grind
   rw[h2,<-kO,<-kO,show (1:Int)+t+(e - -22-(t+23:Nat)-1)=e-1 by omega]
  have fin:∀{m':Nat} {e':Int},(m':Rat)*p2 e'=(m:Rat)*p2 (e-1)->2*((m':Rat)*p2 e')=(m:Rat)*p2 e:=fun {m' e'} q=>by
   rw[q]
   have:p2 e=p2 1*p2 (e-1):=by rw[<-kO,show 1+(e-1)=e by omega]
   rw[this,B6];grind
  by_cases c: -148<=e
  .obtain ⟨m',e',k1,k2,k3⟩:=Ko (n:=m) (k:=e-1) h0 b2 (by omega) (by omega) s aO;exact⟨_,m',e',rfl,k1,fin k3⟩
  .have oV:m%2=0:=by omega
   have hm:((m:Nat):Rat)=((m/2:Nat):Rat)*2:=by
    have:m=m/2*2:=by omega
    conv=>lhs;rw[this,xV]
    rfl
   have hq:(m:Rat)*p2 (e-1)=((m/2:Nat):Rat)*p2 e:=by
    have:p2 e=p2 1*p2 (e-1):=by rw[<-kO,show 1+(e-1)=e by omega]
    rw[hm,this,B6];grind
   obtain⟨m',e',k1,k2,k3⟩:=Ko (n:=m/2) (k:=e) (by omega) (by omega) (by omega) (by omega) s (aO.trans hq);exact⟨_,m',e',rfl,k1,fin (k3.trans hq.symm)⟩
def ofInt{n:Int}(h:n.natAbs<=16777216):∃m e,po (single.write (.number (n<0) n.natAbs 0)) (n<0) m e/\(m:Rat)*p2 e=(n.natAbs:Rat):=by
 by_cases h0:n.natAbs=0
 .rw [h0];exact⟨0,-149,X1 _ _,by simp⟩
 .by_cases h1:n.natAbs<16777216
  .obtain ⟨m,e,k1,k2,k3⟩:=Ko (n:=n.natAbs) (k:=0) h0 h1 (by omega) (by omega) (m0:=n.natAbs) (e0:=0) (n<0) rfl;exact⟨m,e,k1,by rw[k3,DD,vN]⟩
  .have h2:n.natAbs=16777216:=by omega
   obtain⟨m,e,k1,k2,k3⟩:=Ko (n:=8388608) (k:=1) (by decide) (by decide) (by omega) (by omega) (m0:=n.natAbs) (e0:=0) (n<0) (by rw[h2,DD,B6];decide+kernel)
   exact⟨m,e,k1,by rw[k3,h2,B6];decide+kernel⟩
def apW(n d:Nat)(s:Bool):Toward.zero.cut s n d=n/2^d:=by
 unfold Toward.cut;simp only[ybx,yby,xd];by_cases c:d<=n.log2+2
 .rw [xA c]
 .have h1:n<2^(n.log2+1):=ybC;rw[Nat.min_eq_right (by omega),xW (vO h1 (vX (by decide) (by omega))),xW (vO h1 (vX (by decide) (by omega)))]
def po.toInt{b:Nat}(h:po b s m e):(single.read b).toInt .zero=GW (if s=ycN then -((m*2^e.toNat/2^(-e).toNat:Nat):Int) else ((m*2^e.toNat/2^(-e).toNat:Nat):Int)):=by
 rw[h.read];unfold Datum.toInt Datum.integral;simp only[apW,tf,signed,ux,yi]
def aeh{base:Int}(h:base<=e):((signed s m (e-base).toNat:Int):Rat)*p2 base=fv s m e:=by
 have:p2 e=p2 ((e-base).toNat:Nat)*p2 base:=by rw[<-kO,show ((e-base).toNat:Int)+base=e by omega]
 unfold signed fv sg;rw[this,tf,mf]
 cases s with
 | true=>
  rw[yK rfl,yK rfl,tX]
  have:(((m*2^(e-base).toNat:Nat):Int):Rat)=(m:Rat)*((2^(e-base).toNat:Nat):Rat):=by rw[<-xV];rfl
  rw[this];grind
 | false=>
  rw[yI (by decide),yI (by decide)]
  have:(((m*2^(e-base).toNat:Nat):Int):Rat)=(m:Rat)*((2^(e-base).toNat:Nat):Rat):=by rw[<-xV];rfl
  rw[this];grind
def ase{x y n:Nat}{t:Bool}{j:Int}(hx:po x s m e)(hy:po y t n j):single.order x y=GW (if fv s m e<fv t n j then .lt else if fv s m e=fv t n j then .eq else .gt):=by
 unfold Format.order;rw[hx.read,hy.read];unfold Datum.order;have h1:=aeh (m:=m) (s:=s) (show min e j<=e by omega);have h2:=aeh (m:=n) (s:=t) (show min e j<=j by omega);have hp:=VZ (min e j)
 dsimp only
 generalize signed s m (e-min e j).toNat=a at*
 generalize signed t n (j-min e j).toNat=b at*
 rw[<-h1,<-h2]
 congr 1
 have lt_iff:(a:Rat)*p2 (min e j)<(b:Rat)*p2 (min e j)↔a<b:=by
  constructor
  .intro q
   have:=(uB hp).1 q
   exact_mod_cast this
  .intro q;exact (uB hp).2 (by exact_mod_cast q)
 have eq_iff:(a:Rat)*p2 (min e j)=(b:Rat)*p2 (min e j)↔a=b:=by
  constructor
  .intro q;rcases yaa a b with c | c | c
   .have:=lt_iff.2 c;rw[q] at this;exact absurd this (ycm)
   .exact c
   .have:=(uB hp).2 (show (b:Rat)<a by exact_mod_cast c);rw[q] at this;exact absurd this (ycm)
  .intro q;rw[q]
 rcases yaa a b with c | c | c
 .rw [yK (lt_iff.2 c)];exact Int.compare_eq_lt.2 c
 .rw [yI (fun q=>by have:=lt_iff.1 q;omega),yK (eq_iff.2 c)];exact Int.compare_eq_eq.2 c
 .rw [yI (fun q=>by have:=lt_iff.1 q;omega),yI (fun q=>by have:=eq_iff.1 q;omega)];exact Int.compare_eq_gt.2 c
end
end
section
open Ieee
section
variable {s:Bool}{e:Int}{M b m:Nat}
def dT(m:Nat)(e:Int):Nat:=m*2^(e+149).toNat
structure Fl(b:Nat)(s:Bool)(M:Nat):Prop where
 ex:∃m e,po b s m e/\M=dT m e
def Ai(h: -149<=e):((dT m e:Nat):Rat)=(m:Rat)*p2 e*p2 149:=by
 unfold dT;rw[xV,<-mf,vG,<-kO,show ((e+149).toNat:Int)=e+149 by omega]
def avL:p2 149≠0:=WH 149
def asf{n:Nat}{j:Int}(h1: -149<=e)(h2: -149<=j)(h:(m:Rat)*p2 e=(n:Rat)*p2 j):dT m e=dT n j:=by
 have:((dT m e:Nat):Rat)=((dT n j:Nat):Rat):=by rw[Ai h1,Ai h2,h]
 exact_mod_cast this
def Fl.lt(h:Fl b s M):M<2^277:=by
 obtain⟨m,e,h1,rfl⟩:=h.ex;obtain⟨b1,b2,b3,b4⟩:=h1.b;unfold dT;have h3:2^(e+149).toNat<=2^253:=xe (by decide) (by omega);have h4:=xF (vT (show m<16777215+1 from b2)) h3;exact wB h4 (avH 16777215 24 253 277 (by decide) rfl)
def Fl.X2(h:Fl b s M)(hM:M<2^276):∃b',single.mul b 1073741824=GW b'/\Fl b' s (2*M):=by
 obtain⟨m,e,h1,rfl⟩:=h.ex;obtain⟨b1,b2,b3,b4⟩:=h1.b;have he:e<=103\/m=0:=by
  by_cases c:e<=103
  .exact .inl c
  .exfalso
   have hm:8388608<=m:=by omega
   unfold dT at hM;have h3:2^253<=2^(e+149).toNat:=xe (by decide) (by omega);have h4:=xF hm h3;have h5:(2:Nat)^275<=8388608*2^253:=avI 8388608 23 253 275 (by decide) (by decide);omega
 obtain⟨b',m',e',k1,k2,k3⟩:=VE.X2 h1 he;have ZV:=k2.b.1;refine⟨b',k1,m',e',k2,?_⟩
 have:((2*dT m e:Nat):Rat)=((dT m' e':Nat):Rat):=by
  rw[xV,Ai b1,Ai ZV,k3];show (2:Rat)*_=_
  grind
 exact_mod_cast this
def Fl.X3(h:Fl b s M)(hM:M%2=0):∃b',single.div b 1073741824=GW b'/\Fl b' s (M/2):=by
 obtain⟨m,e,h1,rfl⟩:=h.ex;obtain⟨b1,b2,b3,b4⟩:=h1.b;have he: -148<=e\/m%2=0:=by
  by_cases c: -148<=e
  .exact .inl c
  .have:e= -149:=by omega
   subst this;unfold dT at hM;right
   simpa using hM
 obtain⟨b',m',e',k1,k2,k3⟩:=VE.X3 h1 he;have ZV:=k2.b.1;refine⟨b',k1,m',e',k2,?_⟩
 have:((dT m e:Nat):Rat)=((2*dT m' e':Nat):Rat):=by
  rw[xV,Ai b1,Ai ZV,<-k3];show _=(2:Rat)*_
  grind
 have:dT m e=2*dT m' e':=by exact_mod_cast this
 omega
def bK(s:Bool)(M:Nat):Int:=if s then -(M:Int) else M
def agi(h: -149<=e):fv s m e*p2 149=((bK s (dT m e):Int):Rat):=by
 unfold fv sg bK
 cases s with
 | true=>
  rw[yK rfl,yK rfl,tX]
  have:=Ai (m:=m) h
  have h2:(((dT m e:Nat):Int):Rat)=((dT m e:Nat):Rat):=rfl;rw[h2,this];grind
 | false=>
  rw[yI (by decide),yI (by decide)]
  have:=Ai (m:=m) h
  have h2:(((dT m e:Nat):Int):Rat)=((dT m e:Nat):Rat):=rfl;rw[h2,this];grind
def Fl.ord{x y:Nat}{t:Bool}{N:Nat}(hx:Fl x s M)(hy:Fl y t N):single.order x y=GW (if bK s M<bK t N then .lt else if bK s M=bK t N then .eq else .gt):=by
 obtain⟨m,e,h1,rfl⟩:=hx.ex;obtain⟨n,j,h2,rfl⟩:=hy.ex;rw[ase h1 h2];have q1:=agi (s:=s) (m:=m) h1.b.1;have q2:=agi (s:=t) (m:=n) h2.b.1;have hp:=VZ 149;have lt_iff:fv s m e<fv t n j↔bK s (dT m e)<bK t (dT n j):=by
  rw[<-uB hp,q1,q2];exact Rat.intCast_lt_intCast
 have eq_iff:fv s m e=fv t n j↔bK s (dT m e)=bK t (dT n j):=by
  constructor
  .intro q;rw[q,q2] at q1;exact (Rat.intCast_inj.1 q1).symm
  .intro q
   have:fv s m e*p2 149=fv t n j*p2 149:=by rw[q1,q2,q]
   have h3:=congrArg (·*(p2 149)⁻¹) this;simpa only[vG,Rat.mul_inv_cancel _ avL,vN] using h3
 congr 1
 by_cases c1:bK s (dT m e)<bK t (dT n j)
 .rw [yK c1,yK (lt_iff.2 c1)]
 .rw [yI c1,yI (fun q=>c1 (lt_iff.1 q))];by_cases c2:bK s (dT m e)=bK t (dT n j)
  .rw [yK c2,yK (eq_iff.2 c2)]
  .rw [yI c2,yI (fun q=>c2 (eq_iff.1 q))]
def Fl.ofInt{n:Int}(h:n.natAbs<=16777216):Fl (single.write (.number (n<0) n.natAbs 0)) (n<0) (n.natAbs*2^149):=by
 obtain⟨m,e,k1,k2⟩:=VE.ofInt h;refine⟨m,e,k1,?_⟩;have b1:=k1.b.1
 have:((n.natAbs*2^149:Nat):Rat)=((dT m e:Nat):Rat):=by
  rw[Ai b1,k2,xV,<-mf];rfl
 exact_mod_cast this
def Fl.toInt(h:Fl b s M):(single.read b).toInt .zero=GW (bK s (M/2^149)):=by
 obtain⟨m,e,h1,rfl⟩:=h.ex;have b1:=h1.b.1;rw[h1.toInt]
 have:m*2^e.toNat/2^(-e).toNat=dT m e/2^149:=by
  unfold dT;by_cases c:0<=e
  .rw [show (-e).toNat=0 by omega,ux,Nat.div_one,show (e+149).toNat=e.toNat+149 by omega,xL,<-xm,uR _ (xr _)]
  .obtain ⟨d,hd⟩:∃d:Nat,e= -(d:Int):=⟨(-e).toNat,by omega⟩;have js:(e+149).toNat+d=149:=by omega
   rw[show e.toNat=0 by omega,ux,yi,show (-e).toNat=d by omega];have hp:0<2^(e+149).toNat:=xr _;rw[<-js,xL,xz m,Nat.mul_div_mul_left _ _ hp]
 rw[this];unfold bK;cases s<;>rfl
def Fl.zero:Fl 0 ycO 0:=⟨0,-149,⟨by rw[<-Kn];exact agf single,by decide,by decide⟩,by decide⟩
def Fl.neg(h:Fl b s M):Fl (b^^^2147483648) (!s) M:=by
 obtain⟨m,e,h1,rfl⟩:=h.ex;refine⟨m,e,⟨h1.can,h1.lt,?_⟩,rfl⟩;have hr:gY single m e<2^31:=vO h1.lt (by decide);have sw:single.signWeight=2^31:=by decide
 rw[h1.eq];unfold Format.word;rw[sw];have hx:gY single m e^^^2147483648=2^31+gY single m e:=by
  rw[show (2147483648:Nat)=2^31*1 by decide,Nat.xor_comm]
  have:=Nat.two_pow_add_eq_or_of_lt hr 1
  have h2:=Nat.xor_mod_two_pow (a:=gY single m e) (b:=2^31*1) (n:=31);refine Nat.eq_of_testBit_eq fun i=>?_
  rw[Nat.testBit_xor,show 2^31+gY single m e=2^31*1+gY single m e by omega,Nat.testBit_two_pow_mul_add _ hr,Nat.testBit_two_pow_mul];by_cases c:i<31
  .simp [c,show ¬31<=i by omega]
  .have:Nat.testBit (gY single m e) i=ycO:=Nat.testBit_lt_two_pow (yR hr (xe (by decide) (by omega)))
   simp[c,this,show 31<=i by omega]
 cases s with
 | false=>rw[yI (by decide),hx];rfl
 | true=>
  rw[yK rfl]
  have:(2^31+gY single m e)^^^2147483648=gY single m e:=by rw[<-hx,Nat.xor_assoc,Nat.xor_self,Nat.xor_zero]
  rw[this];rfl
end
end
section
open Go (IntKind)
open Ieee
section
variable {s:Bool}{M b:Nat}
def Fl.even(h:Fl b s M)(hM:2^173<=M):M%2=0:=by
 obtain⟨m,e,h1,rfl⟩:=h.ex;obtain⟨b1,b2,b3,b4⟩:=h1.b;by_cases c:e<=0
 .exfalso
  unfold dT at hM;have h3:2^(e+149).toNat<=2^149:=xe (by decide) (by omega);have h4:=xF (vT (show m<16777215+1 from b2)) h3;have h5:16777215*(2:Nat)^149<2^173:=by decide
  omega
 .obtain ⟨d,hd⟩:∃d,(e+149).toNat=d+1:=⟨(e+148).toNat,by omega⟩;unfold dT;rw[hd,xt,<-xm,tg]
def Fl.whole(h:Fl b s M)(hM:2^172<=M):M%2^149=0:=by
 obtain⟨m,e,h1,rfl⟩:=h.ex;obtain⟨b1,b2,b3,b4⟩:=h1.b;by_cases c:e<0
 .exfalso
  unfold dT at hM;have h3:2^(e+149).toNat<=2^148:=xe (by decide) (by omega);have h4:=xF (vT (show m<16777215+1 from b2)) h3;have h5:16777215*(2:Nat)^148<2^172:=by decide
  omega
 .obtain ⟨d,hd⟩:∃d,(e+149).toNat=d+149:=⟨e.toNat,by omega⟩;unfold dT;rw[hd,xL,<-xm,tg]
def aeN(h:Fl b s M)(hM:M<2^276):∃b',binOp .mul (.ay .f32 b) (.ay .f32 1073741824)=GW (.ay .f32 b')/\Fl b' s (2*M):=by
 obtain⟨b',k1,k2⟩:=h.X2 hM;refine⟨b',?_,k2⟩;show (match single.mul b 1073741824 with | some b=>GW (AV.ay .f32 b) | none=>none)=_
 rw[k1]
def aeO(h:Fl b s M)(hM:M%2=0):∃b',binOp .quo (.ay .f32 b) (.ay .f32 1073741824)=GW (.ay .f32 b')/\Fl b' s (M/2):=by
 obtain⟨b',k1,k2⟩:=h.X3 hM;refine⟨b',?_,k2⟩;show (match single.div b 1073741824 with | some b=>GW (AV.ay .f32 b) | none=>none)=_
 rw[k1]
section
variable {x y M N:Nat}{s t:Bool}(hx:Fl x s M)(hy:Fl y t N)
include hx hy
theorem agj:binOp .lss (.ay .f32 x) (.ay .f32 y)=GW (.bool (decide (bK s M<bK t N))):=by
 show GW (AV.bool (single.order x y==GW .lt))=_
 rw[hx.ord hy];by_cases c:bK s M<bK t N
 .rw [yK c,xo c];rfl
 .rw [yI c,yW c];split<;>rfl
theorem agk:binOp .geq (.ay .f32 x) (.ay .f32 y)=GW (.bool (decide (bK t N<=bK s M))):=by
 show GW (AV.bool (single.order x y==GW .gt||single.order x y==GW .eq))=_
 rw[hx.ord hy];by_cases c:bK s M<bK t N
 .rw [yK c,yW (by omega)];rfl
 .rw [yI c,xo (by omega)];split<;>rfl
theorem agl:binOp .neq (.ay .f32 x) (.ay .f32 y)=GW (.bool (!decide (bK s M=bK t N))):=by
 show GW (AV.bool (single.order x y !=GW .eq))=_
 rw[hx.ord hy];by_cases c:bK s M<bK t N
 .rw [yK c,yW (by omega)];rfl
 .rw [yI c];by_cases d:bK s M=bK t N
  .rw [yK d,xo d];rfl
  .rw [yI d,yW d];rfl
end
def agm(b:Nat):unOp .neg (.ay .f32 b)=GW (.ay .f32 (b^^^2147483648)):=rfl
def ayl(h:Fl b s M):∃a,max2 (.ay .f32 b) (.ay .f32 (b^^^2147483648))=GW (.ay .f32 a)/\Fl a ycO M:=by
 have hn:=h.neg;have ho:=h.ord hn
 have e:max2 (.ay .f32 b) (.ay .f32 (b^^^2147483648))=(match single.order b (b^^^2147483648) with
  | none=>none
  | some .lt=>GW (.ay .f32 (b^^^2147483648))
  | some .gt=>GW (.ay .f32 b)
  | some .eq=>GW (.ay .f32 (if (single.read b).neg then (b^^^2147483648) else b))):=rfl
 rw[e,ho];obtain⟨m,j,h1,hM⟩:=h.ex;have hr:(single.read b).neg=s:=by rw[h1.read];rfl
 cases s with
 | true=>
  by_cases c:bK ycN M<bK (!ycN) M
  .rw [yK c];exact⟨_,rfl,hn⟩
  .have:bK ycN M=bK (!ycN) M:=by
    unfold bK at c ⊢;simp at c ⊢;omega
   rw[yI c,yK this]
   dsimp only
   rw[hr,yK rfl];exact⟨_,rfl,hn⟩
 | false=>
  have c:¬bK ycO M<bK (!ycO) M:=by
   show ¬(M:Int)< -(M:Int)
   omega
  rw[yI c];by_cases d:bK ycO M=bK (!ycO) M
  .rw [yK d]
   dsimp only
   rw[hr,yI (by decide)];exact⟨_,rfl,h⟩
  .rw [yI d];exact⟨_,rfl,h⟩
def Qc(h:Fl b s M)(hM:M<2^200):kC (.toInt .i64) (.ay .f32 b)=GW (.int .i64 (bK s (M/2^149))):=by
 have e:kC (.toInt .i64) (.ay .f32 b)=(match (single.read b).toInt .zero with
  | some n=>if IntKind.min .i64<=n/\n<=IntKind.max .i64 then GW (.int .i64 n) else none
  | none=>none):=rfl
 rw[e,h.toInt];have h1:M/2^149<2^51:=by rw[xM (xr _),<-xL];exact hM
 generalize M/2^149=n at h1
 have:IntKind.min .i64<=bK s n/\bK s n<=IntKind.max .i64:=by
  rw[show IntKind.min .i64= -9223372036854775808 from rfl,show IntKind.max .i64=9223372036854775807 from rfl];unfold bK
  split<;>omega
 exact yK this
def aei{n:Int}(h:n.natAbs<=16777216):∃b,kC (.toFlt .f32) (.int .i64 n)=GW (.ay .f32 b)/\Fl b (n<0) (n.natAbs*2^149):=
 ⟨_,rfl,Fl.ofInt h⟩
def agn:Fl 1266679808 ycO (2^173):=⟨8388608,1,⟨⟨by decide,by decide,.inl (by decide)⟩,by decide,by decide⟩,by decide⟩
end
end
end VE
