import Derived.Test.YtfdcefmdjiokdaaGreatDoorWai
set_option linter.all false
set_option maxRecDepth 100000
open Bool renaming and_eq_true->yj,and_self->xt,and_true->vV,false_and->xI,false_eq_true->yH,false_or->vS,not_false->yQ,not_true->yM,true_and->xQ,true_eq_false->ybh,true_or->yar
open Go renaming DataW->xW,Field->tE,FloatKind->uJ,IntKind->xh,MemPlace->wY,Program->xM,TypeId->yL,Value->yr,World->yt
open Int renaming emod_nonneg->wV,gcd->vE,le_of_lt->tr,mul_add->ycF,mul_le_mul->ybf,mul_le_mul_of_nonneg_left->uI,mul_nonneg->tk,natAbs_ediv_of_dvd->uY,natAbs_natCast->wA,natCast_add->yaR,natCast_mul->xS,natCast_nonneg->yaq,neg_neg->yak,ofNat_eq_natCast->yaY,ofNat_lt->tq,pow_pos->ycG,pow_succ->tW,tdiv_eq_ediv_of_nonneg->xR,tmod_eq_emod_of_nonneg->xF,toNat_natCast->xx,toNat_of_nonneg->ybg
open Int.ofNat renaming inj->yac
open List renaming append_assoc->xu,append_nil->wh,cons_append->xC,drop->xK,drop_drop->vP,drop_eq_getElem_cons->yP,drop_eq_nil_of_le->yY,drop_left->um,drop_zero->yh,eq_nil_of_length_eq_zero->yu,flatMap_def->ybD,getD_eq_getElem?_getD->yW,getElem?_eq_getElem->xz,getElem_cons_zero->wJ,getElem_mem->yy,length->tK,length_append->yE,length_cons->yB,length_drop->xZ,length_map->yg,length_nil->yI,length_pos_iff->uZ,length_take->yJ,mapM_cons->uP,map_append->yX,map_cons->yS,map_nil->wu,map_set->ybB,mem_cons->wj,mem_cons_of_mem->xi,mem_cons_self->xA,mem_map->xj,nil_append->xy,not_mem_nil->ybE,replicate->ye,set_eq_of_length_le->yaB,set_eq_take_append_cons_drop->uC,take_append_drop->xX,take_left->tg,take_length->xH,take_of_length_le->yq,take_set->yaD,take_succ_eq_append_getElem->yk
open List.cons renaming injEq->tP
open Nat renaming add_comm->ybJ,add_mul->xU,add_zero->xg,beq->yG,ble->yO,ble_eq_true_of_le->yC,blt->yU,div_add_mod->wF,div_eq_of_lt->wZ,div_lt_iff_lt_mul->wE,eq_of_beq_eq_true->yz,eq_zero_or_pos->xE,gcd->wX,gcd_comm->tN,le_of_ble_eq_true->yF,le_of_lt_succ->yay,le_refl->ym,le_trans->xB,lt_of_le_of_lt->wM,lt_of_lt_of_le->yT,min_eq_left->xq,mod_add_div->uy,mod_eq_of_lt->y8,mod_lt->xV,mul_add->xO,mul_assoc->xD,mul_comm->xY,mul_le_mul->xo,mul_le_mul_left->yZ,mul_le_mul_right->yR,mul_lt_mul''->th,mul_lt_mul_of_pos_right->vl,mul_one->yf,mul_pos->ux,mul_zero->xP,not_lt_zero->vh,one_lt_two_pow->vO,pow_add->wP,pow_le_pow_left->vR,pow_le_pow_right->y9,pow_lt_pow_iff_right->tH,pow_mul->yaj,pow_pos->ybL,pow_succ->xJ,reduceAdd->yb,reduceEqDiff->ya,reduceLT->yA,reduceLeDiff->yi,reduceMul->yV,zero_add->yd
open Option renaming bind_eq_bind->ue,bind_some->wR,map_eq_some_iff->ve,pure_def->vA
open Option.some renaming injEq->yc
open Prod.mk renaming injEq->yD
open Rat renaming den_intCast->uz,divInt->wW,floor_def->ycq,mul_comm->ub,num_intCast->vY,one_mul->yal
open Option renaming some->Ix
open Bool renaming true->ycO,false->ycP
namespace VE
open Go (IntKind)
variable {P:aJ}{L:Lib}
variable{v w' x' y' z':AV}{ex:Bool}{tm:Env}{hp:Hp}{S Y bo fr x:Int}{a out vs:List Int}{dx dy:List Nat}{A K M N V ct d u0 u1 u2:Nat}{hh hs:Rat}
def arb:∀(cs:List AV) (l:List Nat),BH cs=Ix l->cs=l.map uc/\lo 18446744073709551616 l:=by
 intro cs
 induction cs with
 | nil=>
  intro l h;simp only[BH,yc] at h;subst h;exact⟨rfl,fun _ h=>by cases h⟩
 | cons c cs ih=>
  intro l h;unfold BH at h
  split at h
  .grind
  .rename_i d r A6;cases A6
   cases hb:yU d 18446744073709551616 with
   | false=>rw[hb] at h;cases h
   | true=>
    rw[hb] at h
    cases hw:BH cs with
    | none=>rw[hw] at h;cases h
    | some l'=>
     rw[hw] at h;cases h;have⟨k1,k2⟩:=ih l' hw;refine⟨by rw[k1];rfl,fun x hx=>?_⟩
     rcases wj.1 hx with rfl | hx
     .simp_all
     .exact k2 x hx
  .cases h
def agr:∀{l:List Nat},EN l=ycO->jm l
 | [],h=>by cases h
 | [a],h=>by
  have h0:a≠0:=fun e=>by subst e;cases h
  exact IG h0 []
 | a::b::r,h=>by
  have h1:fa (b::r)=b::r:=agr (l:=b::r) h;show fa (a::(b::r))=_
  simp only[fa] at h1 ⊢;rw[h1]
def axk(h:Has P L 99 HT)(abE:L.pure 135=Ix Oe){s:Int}(hs:EF s=ycO):bM P L (D P L) 99 [.agg [aa s,.ae]]=Ix (.str (aU s)):=by
 have e1:bM P L (D P L) 135 [aa s]=Ix (.str (aU s)):=by
  rw[lI abE];show (bif EF s then Ix (AV.str (aU s)) else none)=_
  rw[hs];rfl
 rw[aB h];simp only[go_sem,ya,yb,HT,aG,aZ,yd,cD,jd,eV,e1]
section
open Go
variable {O:bC}
def asJ(hO:jq O)(hN:Nu O.prog O.a8)(abE:O.a8.pure 135=Ix Oe)(Hz:O.a8.pure 138=Ix D1)(Dk:O.a8.pure 139=Ix Eg)(Lg:Has O.prog O.a8 99 HT){fn:Func}{c:Code}(oJ:O.P.funcs[O.ai 99]? =Ix fn)(lD:fn.body=Ix c)(VN:fn.ntmps=69)(abB:Ve 5 c)(ht:YZ O.P c):∀az r,SJ az=Ix r->fF O 99 az r:=by
 intro az r h;unfold SJ at h
 split at h
 .rename_i s
  cases hs:EF s with
  | false=>rw[hs] at h;cases h
  | true=>
   rw[hs] at h;cases h;have⟨k,hk⟩:=ajr (axk (P:=O.prog) (L:=O.a8) Lg abE hs);exact sound hO hk
 .rename_i s e n cs
  cases hw:BH cs with
  | none=>rw[hw] at h;cases h
  | some l=>
   rw[hw] at h;simp only at h
   cases hb:(yG l.length n&&(yO n 4000000000&&(EN l&&yO 9223372036854775808 (B3 l)))) with
   | false=>rw[hb] at h;cases h
   | true=>
    rw[hb] at h;simp only[yj] at hb;have⟨h1,h2,h3,h4⟩:=hb;obtain⟨rfl,bj⟩:=arb cs l hw;have h1:=yz h1;subst h1;have h2:=yF h2;have h4:=yF h4;have h3:=agr h3;rw[YX] at h4 h;have aY:=qd bj;have key:=fun (s z:Int) (hz:z.natAbs=bv 18446744073709551616 l) (hs:s=if z<0 then -1 else 1)=>
     auU hO hN Hz Dk Lg.code oJ lD VN abB ht (s:=s) (z:=z) (e:=e) (l:=l) (.inr ⟨e,l,rfl,bj,h3,hz.symm,hs,by lia⟩) (by lia) h2 (by lia)
    split at h
    .cases h
     have:=key 1 (bv 18446744073709551616 l:Nat) (by simp) (by rw[yx (by lia)])
     exact this
    .cases h
     have:=key (-1) (-(bv 18446744073709551616 l:Nat):Int) (by simp) (by rw[yK (by lia)])
     rw[mZ (by lia)] at this
     grind
    .cases h
 .cases h
end
section
open Go
def ZE(L:Lib)(n:Nat)(sp:List AV->Option AV):Lib:=⟨fun i=>bif yG i n then Ix sp else L.pure i,L.heap⟩
def asK{O:bC}(hO:jq O){n:Nat}{sp:List AV->Option AV}(h:∀az r,sp az=Ix r->fF O n az r):jq (O.CK (ZE O.a8 n sp)) where
 hint:=hO.hint
 mixed:=hO.mixed
 prog:=hO.prog
 a8 i VZ az r hi hs:=by
  show fF O i az r
  simp only[ZE] at hi
  cases hb:yG i n with
  | true=>
   simp_all
  | false=>
   rw[hb] at hi;exact hO.a8 i VZ az r hi hs
 JU i VZ hp ct az v aq bc hi hs:=af9 (hO.JU i VZ hp ct az v aq bc hi hs)
end
section
open Go
section
variable {H:Type}{enc:yL×yr->H}{P:xM}{w:yt}{base:Nat}{sp:Nat->Bool}{held:Bool}
def mapM_mem{α β:Type}{f:α->Option β}:∀{l:List α} {r:List β},l.mapM f=Ix r->∀y,y∈r->∃x,f x=Ix y
 | [],r,h,y,hy=>by simp only[List.mapM_nil,vA,yc] at h;subst h;cases hy
 | x::l,r,h,y,hy=>by
  rw[uP] at h
  cases h1:f x with
  | none=>simp[h1] at h
  | some z=>
   cases h2:l.mapM f with
   | none=>simp[h1,h2] at h
   | some zs=>
    simp only[h1,h2,wR,ue,vA,yc] at h;subst h;rcases wj.1 hy with rfl | hy
    .grind
    .exact mapM_mem h2 y hy
def Rd(enc:yL×yr->H)(P:xM)(w:yt)(base:Nat)(sp:Nat->Bool)(held:Bool)(t:yL)(d:xW H):Prop:=∃bA cs ps,DataW.trod enc P w base sp held bA t cs=Ix (d,ps)
def aAh{t:yL}{k:xh}{d:xW H}{n:Nat}(ht:P.underlying t=Ix (.int k))(h:Rd enc P w base sp held t d):∃z,cI P (n+1) t d=[.int k z]/\(Lit.int k z).wf=ycO:=by
 obtain⟨bA,cs,ps,h⟩:=h
 cases bA with
 | zero=>simp[DataW.trod] at h
 | succ bA=>
  unfold DataW.trod at h
  split at h
  all_goals first
   | (rename_i hu;rw[ht] at hu;cases hu;done)
   | skip
  .rename_i k1 k2 z hu;rw[ht] at hu;injection hu with hu
   injection hu with hu
   subst hu
   split at h
   .rename_i hk;obtain⟨rfl,rfl⟩:=h;exact⟨z,by simp only[cI,ht],hk.2⟩
   .cases h
  grind
def auY{t e:yL}{d:xW H}{n:Nat}(ht:P.underlying t=Ix (.slice e))(h:Rd enc P w base sp held t d):
  cI P (n+1) t d=[.ae]\/∃(x:Bool) (ma:List (xW H)),cI P (n+1) t d=[.aF x ma.length (ma.flatMap fun y=>cI P n e y)]/\∀y,y∈ma->Rd enc P w base sp held e y:=by
 obtain⟨bA,cs,ps,h⟩:=h
 cases bA with
 | zero=>simp[DataW.trod] at h
 | succ bA=>
  unfold DataW.trod at h
  split at h
  all_goals first
   | (rename_i hu;rw[ht] at hu;cases hu;done)
   | skip
  .simp only [yc,yD] at h;obtain⟨rfl,rfl⟩:=h;exact .inl (by simp only[cI,ht])
  .rename_i e' a len cap hu;rw[ht] at hu;injection hu with hu
   injection hu with hu
   subst hu;simp only at h
   split at h
   case isFalse=>cases h
   cases h1:(List.range len).mapM fun i=>(w.cells? base (a.add (i*P.cellsOf e)) (P.cellsOf e)).bind (DataW.trod enc P w base sp held bA e) with
   | none=>rw[h1] at h;simp at h
   | some ma=>
    rw[h1] at h;obtain⟨rest,_,h⟩:=ve.1 h;obtain⟨rfl,rfl⟩:=h;refine .inr ⟨(rest.map (·.1)).isEmpty,ma.map (·.1),by simp only[cI,ht,yg],?_⟩;intro y hy;obtain⟨p,hp,rfl⟩:=xj.1 hy;obtain⟨i,hi⟩:=mapM_mem h1 p hp;obtain⟨ej,_,dA⟩:=Option.bind_eq_some_iff.1 hi;exact⟨bA,ej,p.2,dA⟩
  grind
def asL{t:yL}{fs:Array tE}{d:xW H}{n:Nat}(ht:P.underlying t=Ix (.struct fs))(h:Rd enc P w base sp held t d):
  ∃ds:List (xW H),ds.length=fs.toList.length/\cI P (n+1) t d=(fs.toList.zip ds).flatMap (fun x=>cI P n x.1.type x.2)/\∀i (h1:i<fs.toList.length) (h2:i<ds.length),Rd enc P w base sp held fs.toList[i].type ds[i]:=by
 obtain⟨bA,cs,ps,h⟩:=h
 cases bA with
 | zero=>simp[DataW.trod] at h
 | succ bA=>
  unfold DataW.trod at h
  split at h
  all_goals first
   | (rename_i hu;rw[ht] at hu;cases hu;done)
   | (cases h;done)
   | skip
  rename_i cs x1 P9 fs' hu;rw[ht] at hu;injection hu with hu
  injection hu with hu
  subst hu
  split at h
  case isFalse=>cases h
  obtain⟨xs,h1,h⟩:=ve.1 h;obtain⟨rfl,rfl⟩:=h;refine⟨xs.map (·.1),by simp[RI h1],by simp only[cI,ht],?_⟩;have key:∀{r:List tE} {xs:List (xW H×List wY)},r.mapM (fun f=>DataW.trod enc P w base sp held bA f.type ((cs.drop f.offset).take (P.cellsOf f.type)))=Ix xs->
    ∀i (h1:i<r.length) (h2:i<(xs.map (·.1)).length),Rd enc P w base sp held r[i].type (xs.map (·.1))[i]:=by
   intro r
   induction r with
   | nil=>intro xs h i h1;exact absurd h1 (vh i)
   | cons f r ih=>
    intro xs h i h1 h2;rw[uP] at h
    cases g1:DataW.trod enc P w base sp held bA f.type ((cs.drop f.offset).take (P.cellsOf f.type)) with
    | none=>simp[g1] at h
    | some x=>
     cases g2:r.mapM (fun f=>DataW.trod enc P w base sp held bA f.type ((cs.drop f.offset).take (P.cellsOf f.type))) with
     | none=>simp[g1,g2] at h
     | some ys=>
      simp only[g1,g2,wR,ue,vA,yc] at h;subst h
      cases i with
      | zero=>exact⟨bA,_,x.2,g1⟩
      | succ i=>exact ih g2 i (by simpa using h1) (by simpa using h2)
  exact key h1
def auZ{t e:yL}{k:Nat}{d:xW H}{n:Nat}(ht:P.underlying t=Ix (.array k e))(h:Rd enc P w base sp held t d):
  ∃ds:List (xW H),ds.length=k/\cI P (n+1) t d=ds.flatMap (fun x=>cI P n e x)/\∀y,y∈ds->Rd enc P w base sp held e y:=by
 obtain⟨bA,cs,ps,h⟩:=h
 cases bA with
 | zero=>simp[DataW.trod] at h
 | succ bA=>
  unfold DataW.trod at h
  split at h
  all_goals first
   | (rename_i hu;rw[ht] at hu;cases hu;done)
   | (cases h;done)
   | skip
  rename_i cs x1 P9 k' e' hu;rw[ht] at hu;injection hu with hu
  injection hu with A7 DJ
  subst A7;subst DJ
  split at h
  case isFalse=>cases h
  obtain⟨xs,h1,h⟩:=ve.1 h;obtain⟨rfl,rfl⟩:=h;refine⟨xs.map (·.1),by simp[RI h1],by simp only[cI,ht],fun y hy=>?_⟩;obtain⟨p,hp,rfl⟩:=xj.1 hy;obtain⟨i,hi⟩:=mapM_mem h1 p hp;exact⟨bA,_,p.2,hi⟩
end
end
section
open Go
inductive Ty
 | int (k:xh)
 | dP (k:uJ)
 | bool
 | str
 | sl (e:Ty)
 | nil
 | cat (a b:Ty)
 | ar (n:Nat) (e:Ty)
def iX:Ty->List AV->Prop
 | .int k,l=>∃z,l=[.int k z]/\(Lit.int k z).wf=ycO
 | .dP k,l=>∃b,l=[.dP k b]/\(Lit.float k b).wf=ycO
 | .bool,l=>∃b,l=[.bool b]
 | .str,l=>∃s:List Nat,l=[.str s]/\s.length<9223372036854775808/\∀c,c∈s->c<256
 | .sl e,l=>l=[.ae]\/∃(x:Bool) (ps:List (List AV)),l=[.aF x ps.length ps.flatten]/\∀p,p∈ps->iX e p
 | .nil,l=>l=[]
 | .cat a b,l=>∃x y,l=x++y/\iX a x/\iX b y
 | .ar n e,l=>∃ps:List (List AV),ps.length=n/\l=ps.flatten/\∀p,p∈ps->iX e p
def rz:List (Option Ty)->Option Ty
 | []=>Ix .nil
 | some a::r=>match rz r with
  | some b=>Ix (.cat a b)
  | none=>none
 | none::_=>none
def iR(P:xM):Nat->yL->Option Ty
 | 0,_=>none
 | n+1,t=>
  match P.underlying t with
  | some .bool=>Ix .bool
  | some (.int k)=>Ix (.int k)
  | some (.float k)=>Ix (.dP k)
  | some .string=>Ix .str
  | some (.slice e)=>(iR P n e).map .sl
  | some (.struct fs)=>rz (fs.toList.map fun f=>iR P n f.type)
  | some (.array k e)=>(iR P n e).map (.ar k)
  | _=>none
section
variable {H:Type}{enc:yL×yr->H}{P:xM}{w:yt}{base:Nat}{sp:Nat->Bool}{held:Bool}
def aAi{t:yL}{k:uJ}{d:xW H}{n:Nat}(ht:P.underlying t=Ix (.float k))(h:Rd enc P w base sp held t d):∃b,cI P (n+1) t d=[.dP k b]/\(Lit.float k b).wf=ycO:=by
 obtain⟨bA,cs,ps,h⟩:=h
 cases bA with
 | zero=>simp[DataW.trod] at h
 | succ bA=>
  unfold DataW.trod at h
  split at h
  all_goals first
   | (rename_i hu;rw[ht] at hu;cases hu;done)
   | skip
  .rename_i k1 k2 z hu;rw[ht] at hu;injection hu with hu
   injection hu with hu
   subst hu
   split at h
   .rename_i hw;obtain⟨rfl,rfl⟩:=h;exact⟨z,by simp only[cI,ht],hw.2⟩
   .cases h
  grind
def axl{t:yL}{d:xW H}{n:Nat}(ht:P.underlying t=Ix .bool)(h:Rd enc P w base sp held t d):∃b,cI P (n+1) t d=[.bool b]:=by
 obtain⟨bA,cs,ps,h⟩:=h
 cases bA with
 | zero=>simp[DataW.trod] at h
 | succ bA=>
  unfold DataW.trod at h
  split at h
  all_goals first
   | (rename_i hu;rw[ht] at hu;cases hu;done)
   | skip
  .simp only [yc,yD] at h;obtain⟨rfl,rfl⟩:=h;rename_i b _;exact⟨b,by simp only[cI,ht]⟩
  grind
def aAj{t:yL}{d:xW H}{n:Nat}(ht:P.underlying t=Ix .string)(h:Rd enc P w base sp held t d):
  ∃s:List Nat,cI P (n+1) t d=[.str s]/\s.length<9223372036854775808/\∀c,c∈s->c<256:=by
 obtain⟨bA,cs,ps,h⟩:=h
 cases bA with
 | zero=>simp[DataW.trod] at h
 | succ bA=>
  unfold DataW.trod at h
  split at h
  all_goals first
   | (rename_i hu;rw[ht] at hu;cases hu;done)
   | skip
  .rename_i s hu
   split at h
   .rename_i hs;obtain⟨rfl,rfl⟩:=h;refine⟨_,by simp only[cI,ht];rfl,?_,fun c hc=>?_⟩
    .simp only [yg,Array.length_toList];have h1:s.size<=9223372036854775807:=hs;have h2:s.data.size=s.size:=rfl;omega
    .obtain ⟨b,_,rfl⟩:=xj.1 hc;exact b.toNat_lt
   .cases h
  grind
def afx{n:Nat}(ih:∀{t:yL} {T:Ty} {d:xW H},iR P n t=Ix T->Rd enc P w base sp held t d->iX T (cI P n t d)):
  ∀(fs:List tE) (ds:List (xW H)) (T:Ty),rz (fs.map fun f=>iR P n f.type)=Ix T->ds.length=fs.length->(∀i (h1:i<fs.length) (h2:i<ds.length),Rd enc P w base sp held fs[i].type ds[i])->
   iX T ((fs.zip ds).flatMap fun x=>cI P n x.1.type x.2)
 | [],ds,T,hT,_,_=>by
  simp only[wu,rz,yc] at hT;subst hT;simp[iX]
 | f::fs,[],T,_,hl,_=>by simp at hl
 | f::fs,d::ds,T,hT,hl,hr=>by
  simp only[yS] at hT
  cases h1:iR P n f.type with
  | none=>simp[h1,rz] at hT
  | some a=>
   cases h2:rz (fs.map fun f=>iR P n f.type) with
   | none=>simp[h1,h2,rz] at hT
   | some b=>
    simp only[h1,h2,rz,yc] at hT;subst hT;exact⟨_,_,rfl,ih h1 (hr 0 (by simp) (by simp)),afx ih fs ds b h2 (by simpa using hl) (fun i h1 h2=>hr (i+1) (by simpa using h1) (by simpa using h2))⟩
def ajH:∀(n:Nat) {t:yL} {T:Ty} {d:xW H},iR P n t=Ix T->Rd enc P w base sp held t d->iX T (cI P n t d)
 | 0,t,T,d,hT,_=>by simp[iR] at hT
 | n+1,t,T,d,hT,hr=>by
  have ih:=@ajH n
  cases hu:P.underlying t with
  | none=>simp[iR,hu] at hT
  | some u=>
   cases u with
   | slice e=>
    simp only[iR,hu] at hT;obtain⟨E,hE,rfl⟩:=ve.1 hT
    rcases auY (n:=n) hu hr with h | ⟨x,ma,h,hm⟩
    .exact .inl h
    .refine .inr ⟨x,ma.map (cI P n e),by rw[h,yg,ybD],fun p hp=>?_⟩
     grind
   | struct fs=>
    simp only[iR,hu] at hT;obtain⟨ds,e1,e2,e3⟩:=asL (n:=n) hu hr;rw[e2];exact afx ih fs.toList ds T hT e1 e3
   | array k e=>
    simp only[iR,hu] at hT;obtain⟨E,hE,rfl⟩:=ve.1 hT;obtain⟨ds,e1,e2,e3⟩:=auZ (n:=n) hu hr;refine⟨ds.map (cI P n e),by simp[e1],by rw[e2,ybD],fun p hp=>?_⟩
    grind
   | int k=>
    simp only[iR,hu,yc] at hT;subst hT;exact aAh hu hr
   | float k=>
    simp only[iR,hu,yc] at hT;subst hT;exact aAi hu hr
   | bool=>
    simp only[iR,hu,yc] at hT;subst hT;exact axl hu hr
   | string=>
    simp only[iR,hu,yc] at hT;subst hT;exact aAj hu hr
   | _=>simp[iR,hu] at hT
def Ko:Ty->List AV->AV
 | .nil,l | .cat _ _,l | .ar _ _,l=>.agg l
 | _,l=>l.headD .undef
def asM:∀{l:List (Option Ty)} {T:Ty},rz l=Ix T->∀x,Ko T x=.agg x
 | [],T,h=>by simp only[rz,yc] at h;subst h;exact fun _=>rfl
 | none::r,T,h=>by simp[rz] at h
 | some a::r,T,h=>by
  cases h1:rz r with
  | none=>simp[rz,h1] at h
  | some b=>
   simp only[rz,h1,yc] at h;subst h;exact fun _=>rfl
def aCj{n:Nat}{t:yL}{T:Ty}{d:xW H}(hT:iR P n t=Ix T):nt P n t d=Ko T (cI P n t d):=by
 cases n with
 | zero=>simp[iR] at hT
 | succ n=>
  cases hu:P.underlying t with
  | none=>simp[iR,hu] at hT
  | some u=>
   cases u with
   | slice e=>
    simp only[iR,hu] at hT;obtain⟨E,hE,rfl⟩:=ve.1 hT;simp only[nt,hu,Ko]
   | struct fs=>
    simp only[iR,hu] at hT;rw[asM hT];simp only[nt,hu]
   | array k e=>
    simp only[iR,hu] at hT;obtain⟨E,hE,rfl⟩:=ve.1 hT;simp only[nt,hu,Ko]
   | _=>
    simp only[iR,hu,yc,reduceCtorEq] at hT<;>
    (subst hT
     simp only[nt,hu,Ko])
def EO:List Ty->List (List AV)->List AV
 | T::Ts,l::ls=>Ko T l::EO Ts ls
 | _,_=>[]
def ahs{n:Nat}:∀{ts:List yL} {Ts:List Ty} {vs:List yr} {ds:List (xW H)} {ps:List wY},(ts.map (iR P n))=Ts.map Ix->DataW.TrodAll enc P w base sp held ts vs ds ps->
  ∃ls,bZ iX Ts ls/\CW P n ts ds=EO Ts ls/\ds.length=ts.length
 | [],[],[],[],ps,_,_=>⟨[],trivial,rfl,rfl⟩
 | t::ts,T::Ts,v::vs,d::ds,ps,hT,⟨p,q,⟨bA,h1⟩,h2,_⟩=>by
  simp only[yS,tP] at hT;have⟨ls,k1,k2,k3⟩:=ahs hT.2 h2;exact⟨cI P n t d::ls,⟨ajH n hT.1 ⟨bA,_,_,h1⟩,k1⟩,by simp only[CW,EO,k2,aCj hT.1],by simp[k3]⟩
 | [],_::_,_,_,_,h,_=>by simp at h
 | _::_,[],_,_,_,h,_=>by simp at h
 | [],[],_::_,_,_,_,h=>by simp[DataW.TrodAll] at h
 | [],[],[],_::_,_,_,h=>by simp[DataW.TrodAll] at h
 | _::_,_,[],_,_,_,h=>by simp[DataW.TrodAll] at h
 | _::_,_,_::_,[],_,_,h=>by simp[DataW.TrodAll] at h
def aAk{α β:Type}{p:α->β->Prop}{a:α}:∀{l:List β},bZ p [a] l->∃x,l=[x]/\p a x
 | [x],h=>⟨x,rfl,h.1⟩
 | [],h=>h.elim
 | _::_::_,h=>h.2.elim
def aAl{α β:Type}{p:α->β->Prop}{a b:α}:∀{l:List β},bZ p [a,b] l->∃x y,l=[x,y]/\p a x/\p b y
 | x::l,h=>let ⟨y,h1,h2⟩:=aAk h.2;⟨x,y,by rw[h1],h.1,h2⟩
 | [],h=>h.elim
def aAm{α β:Type}{p:α->β->Prop}{a b c:α}:∀{l:List β},bZ p [a,b,c] l->∃x y z,l=[x,y,z]/\p a x/\p b y/\p c z
 | x::l,h=>let ⟨y,z,h1,h2,h3⟩:=aAl h.2;⟨x,y,z,by rw[h1],h.1,h2,h3⟩
 | [],h=>h.elim
end
end
abbrev GW:Ty:=.cat .str (.cat .str .nil)
abbrev TL:Ty:=.cat GW (.cat .str .nil)
def RN{l:List AV}(h:iX GW l):∃x y:List Nat,l=[.str x,.str y]/\x.length<9223372036854775808/\y.length<9223372036854775808:=by
 obtain⟨_,_,rfl,⟨x,rfl,hx,_⟩,_,_,rfl,⟨y,rfl,hy,_⟩,rfl⟩:=h;exact⟨x,y,rfl,hx,hy⟩
def au0{l:List AV}(h:iX TL l):∃x y s:List Nat,l=[.str x,.str y,.str s]/\x.length<9223372036854775808/\y.length<9223372036854775808/\s.length<9223372036854775808:=by
 obtain⟨_,_,rfl,h1,_,_,rfl,⟨s,rfl,hs,_⟩,rfl⟩:=h;obtain⟨x,y,rfl,hx,hy⟩:=RN h1;exact⟨x,y,s,rfl,hx,hy,hs⟩
abbrev aag:Ty:=.sl (.int .i64)
abbrev aiG:Ty:=.sl aag
abbrev Tb:Ty:=.cat aiG (.cat .str (.cat .str (.cat .str (.cat GW (.cat GW .nil)))))
def aht:∀{ps:List (List AV)},(∀p,p∈ps->iX (.int .i64) p)->∃zs:List Int,zs.length=ps.length/\ps.flatten=zs.map aa
 | [],_=>⟨[],rfl,rfl⟩
 | p::ps,h=>by
  obtain⟨z,rfl,_⟩:=h p xA;have⟨zs,h1,h2⟩:=aht (ps:=ps) (fun q hq=>h q (xi _ hq));exact⟨z::zs,by simp[h1],by simp[h2]⟩
def au1{l:List AV}(h:iX aag l):∃(v:AV) (zs:List Int),l=[v]/\bl v zs:=by
 rcases h with rfl | ⟨x,ps,rfl,h⟩
 .exact ⟨_,[],rfl,mY⟩
 .have ⟨zs,h1,h2⟩:=aht h;refine⟨_,zs,rfl,?_⟩;rw[h2,<-h1];exact fZ x zs
def ahu:∀{ps:List (List AV)},(∀p,p∈ps->iX aag p)->∃s:List (List Int),s.length=ps.length/\ps.flatten.length=ps.length/\bZ bl ps.flatten s
 | [],_=>⟨[],rfl,rfl,trivial⟩
 | p::ps,h=>by
  obtain⟨v,zs,rfl,hv⟩:=au1 (h p xA);have⟨s,h1,h2,h3⟩:=ahu (ps:=ps) (fun q hq=>h q (xi _ hq));exact⟨zs::s,by simp[h1],by simp[h2],hv,h3⟩
def arc{l:List AV}(h:iX aiG l):∃(v:AV) (s:List (List Int)),l=[v]/\ix v s:=by
 rcases h with rfl | ⟨x,ps,rfl,h⟩
 .exact ⟨_,[],rfl,aum⟩
 .have ⟨s,h1,h2,h3⟩:=ahu h;refine⟨_,s,rfl,ps.flatten,?_,h3⟩
  have:=Nj x ps.flatten
  rwa[h2] at this
def asN{l:List AV}(h:iX Tb l):∃(w:AV) (s:List (List Int)) (a b c d e f g:List Nat),l=[w,.str a,.str b,.str c,.str d,.str e,.str f,.str g]/\ix w s/\a.length<9223372036854775808/\b.length<9223372036854775808/\c.length<9223372036854775808/\d.length<9223372036854775808/\e.length<9223372036854775808/\f.length<9223372036854775808/\g.length<9223372036854775808:=by
 obtain⟨_,_,rfl,h1,_,_,rfl,⟨a,rfl,ha,_⟩,_,_,rfl,⟨b,rfl,hb,_⟩,_,_,rfl,⟨c,rfl,hc,_⟩,_,_,rfl,h2,_,_,rfl,h3,rfl⟩:=h;obtain⟨w,s,rfl,hw⟩:=arc h1;obtain⟨d,e,rfl,hd,he⟩:=RN h2;obtain⟨f,g,rfl,hf,hg⟩:=RN h3;exact⟨w,s,a,b,c,d,e,f,g,rfl,hw,ha,hb,hc,hd,he,hf,hg⟩
def Nn(n:Nat):10^n<=2^(4*n):=by
 rw[yaj];exact vR (by decide) n
def XX{b:Nat}{r:List Nat}(h:dK (b::r)=ycO):48<=b/\b<=57:=by
 simp only[dK,yj] at h
 simp_all
def ajI(h:Tx P L){ds:List Nat}(hD:da ds 0=Ix N)(hl:ds.length<=4000000000){neg:Bool}{o1 o2:AV}:
  cL P L [0,2,3,4] Ja (fun m st=>∃(pre rest:List Nat) (a:Nat) (s:Int) (w:AV),st=⟨[(0,.str rest),(2,.ptr 0 0),(3,.bool neg),(4,.ptr 1 0)],[(1,.cells ycO ycO ycO 2 [aa s,w]),(0,.cells ycO ycO ycO 2 [o1,o2])],2,0⟩/\ds=pre++rest/\da pre 0=Ix a/\dD s w a/\rest.length=m) (fun ex st'=>∃tm s w,st'=⟨tm,[(1,.cells ycO ycO ycO 2 [aa s,w]),(0,.cells ycO ycO ycO 2 [o1,o2])],2,0⟩/\ex=.exit 0/\ab tm 2=.ptr 0 0/\ab tm 3=.bool neg/\ab tm 4=.ptr 1 0/\dD s w N):=by
 apply cP;rintro m st ⟨pre,rest,a,s,w,rfl,DU,gm,hn,rfl⟩;have⟨l1,u1⟩:=hn.aH;have qh:=hD;rw[DU,M4,gm] at qh;have qh:da rest a=Ix N:=qh;have hlen:pre.length+rest.length<=4000000000:=by rw[DU,yE] at hl;exact hl
 by_cases h0:rest.length=0
 .right
  have hr:rest=[]:=yu h0;subst hr
  have:a=N:=by simpa[da] using qh
  subst this;simp only[go_sem,Ja,yI,show ¬(0:Int)<((0:Nat):Int) by lia];exact⟨_,_,rfl,by simp,_,s,w,rfl,rfl,rfl,rfl,rfl,hn⟩
 .left
  obtain⟨n,qM⟩:∃n,n=min 18 rest.length:=⟨_,rfl⟩;have BS:(if (rest.length:Int)<18 then (rest.length:Int) else 18)=(n:Int):=by split<;>lia
  have jG:rest.take n++rest.drop n=rest:=xX n rest;obtain⟨a',HO⟩:∃a',da (rest.take n) a=Ix a':=by
   rw[<-jG,M4] at qh
   cases hq:da (rest.take n) a with
   | none=>rw[hq] at qh;cases qh
   | some a'=>exact⟨a',rfl⟩
  obtain⟨v,hv⟩:∃v,da (rest.take n) 0=Ix v:=by
   have:∀(l:List Nat) (x y b:Nat),da l x=Ix y->∃z,da l b=Ix z:=by
    intro l
    induction l with
    | nil=>intro x y b _;exact⟨b,rfl⟩
    | cons c l ih=>
     intro x y b hh;simp only[da] at hh ⊢
     cases hb:(yO 48 c&&yO c 57) with
     | false=>rw[hb] at hh;cases hh
     | true=>rw[hb] at hh;exact ih _ _ _ hh
   exact this _ _ _ 0 HO
  have amG:=auS (a:=a) hv;have htl:(rest.take n).length=n:=by rw[yJ];lia
  rw[htl,HO,yc] at amG;have abF:=YY hv;rw[htl] at abF;have aJF:v<1000000000000000000:=yT abF (y9 (n:=10) (by decide) (show n<=18 by lia));have e1:=axh (P:=P) h.abx (f:=D P L) (s:=rest.take n) (by lia) (by lia) hv;have⟨t1,t2⟩:=Hx h.toNu (z:=10) (by decide) (by decide);have⟨t3,t4⟩:=Hx h.toNu (z:=(v:Int)) (by lia) (by lia);have⟨p,e2,hp⟩:=aEz h.toNu h.abz t2 (K:=4) (k:=n) (by unfold Bd;decide) (by lia) (by lia)
  have halt:=YY gm;have ba:Bd (4*pre.length) (a:Int):=yT halt (Nn _);have bp:Bd (4*n+1) ((10:Int)^n):=Bd.pow (k:=4) (by unfold Bd;decide) n
  have⟨q,e3,hq⟩:=B2 h.toNu (v:=.agg [aa s,w]) ⟨s,w,rfl,hn⟩ hp (K:=4*pre.length+4*n+1) (ba.mono (by lia)) (bp.mono (by lia)) (by lia);have bv':Bd (4*n) (v:Int):=yT abF (Nn _);have⟨r,e4,hr⟩:=Pg h.toNu hq t4 (K:=4*pre.length+4*n+1) ((ba.mul bp).mono (by lia)) (bv'.mono (by lia)) (by lia);have aR:(a:Int)*10^n+(v:Int)=(a':Int):=by
   rw[amG]
   simp
  rw[aR] at hr;obtain⟨s2,w2,rfl,h2⟩:=hp;obtain⟨s3,w3,rfl,h3⟩:=hq;obtain⟨s4,w4,rfl,h4⟩:=hr;have⟨l2,u2⟩:=h2.aH;have⟨l3,u3⟩:=h3.aH;have⟨l4,u4⟩:=h4.aH;have un:=CD;have c1:jQ rest (Ix 0) (Ix n)=Ix (.str (rest.take n)):=by rw[oS (by lia) (by lia),yh]
  have c2:jQ rest (Ix n) (Ix rest.length)=Ix (.str (rest.drop n)):=by rw[oS (by lia) (by lia),xH]
  simp only[go_sem,ya,Ja,show (0:Int)<(rest.length:Nat) by lia,GR,Gg,BS,fD,gh,ez,c1,c2,e1,cF,t1,t3,a7,u1.af,u2.af,u3.af,un.af,e2,e3,e4,bf,cF,yh,eD u4];refine⟨_,(rest.drop n).length,rfl,by rw[xZ];lia,pre++rest.take n,rest.drop n,a',s4,w4,by simp only[go_sem,ya,yb,ao],by rw[xu,jG];exact DU,by rw[M4,gm];exact HO,h4,rfl⟩
def XY{b:Nat}{r:List Nat}(h:48<=b):jb [45] (b::r)=ycP:=by
 show (yG 45 b&&ycO)=ycP
 rw[jL (by lia)];rfl
def Pk(h:Tx P L){z:Int}(hz:(aU z).length<=4000000000):∃r,ah P L 110 [.str (aU z)] r/\cM r z:=by
 have hN:=Bs z.natAbs;have un:=CD;have DA:(ay z.natAbs).length<=4000000000:=by
  by_cases h0:z<0
  .rw [mZ h0] at hz;simp at hz;lia
  .rw [<-rZ,yx h0] at hz;simpa using hz
 have ba:Bd (4*(ay z.natAbs).length) (z.natAbs:Int):=yT (YY hN) (Nn _);by_cases h0:z<0
 .have hs:aU z=45::ay z.natAbs:=mZ h0;have e1:bM P L (D P L) 152 [.str (45::ay z.natAbs),.str [45]]=Ix (.bool ycO):=by rw[lI h.amA];rfl
  have e2:bM P L (D P L) 153 [.str (45::ay z.natAbs),.str [45]]=Ix (.str (ay z.natAbs)):=by rw[lI h.abw];rfl
  have lf:∃s w r,ah P L 110 [.str (aU z)] r/\dD s w (z.natAbs:Int)/\ah P L 147 [.agg [aa s,w]] r/\cM r (-(z.natAbs:Int)):=by
   rw[hs];unfold ah;rw[aB h.amC];simp only[go_sem,ya,yb,Uw,aG,e1,e2,un.pu,un.one,eD un];generalize hq:D P L (.loop _ Ja) _=q;obtain⟨ex,st,rfl,tm,s,w,rfl,rfl,t2,t3,t4,h5⟩:=bg hq (ajI (P:=P) (L:=L) h hN DA (neg:=ycO) (o1:=.int .i64 0) (o2:=.ae) (ay z.natAbs).length) ⟨[],ay z.natAbs,0,0,.ae,by simp only[go_sem,ya,yb,ao]<;>rfl,rfl,rfl,.inl ⟨rfl,rfl,by decide,by decide⟩,rfl⟩
   have⟨l5,u5⟩:=h5.aH;have⟨r,e3,hr⟩:=Km h.toNu (v:=.agg [aa s,w]) ⟨s,w,rfl,h5⟩ (K:=4*(ay z.natAbs).length) ba (by lia);have bt:=hr;obtain⟨s6,w6,rfl,h6⟩:=hr;have⟨l6,u6⟩:=h6.aH;refine⟨s,w,_,?_,h5,e3,bt⟩;simp only[go_sem,ya,yb,ao,t2,t3,t4,cF,a7,u5.af,e3,bf,de,df,cF,yh,qg u6,eD u6]
  have⟨s,w,r,g1,_,_,g2⟩:=lf;rw[show -((z.natAbs:Nat):Int)=z by lia] at g2;exact⟨r,g1,g2⟩
 .have hs:aU z=ay z.natAbs:=by rw[<-rZ,yx h0];rfl
  have⟨b,r0,hb,qK,Aj⟩:=IP z.natAbs;have e1:bM P L (D P L) 152 [.str (ay z.natAbs),.str [45]]=Ix (.bool ycP):=by
   rw[lI h.amA,hb];show Ix (AV.bool (jb [45] (b::r0)))=_
   rw[XY qK]
  have e2:bM P L (D P L) 153 [.str (ay z.natAbs),.str [45]]=Ix (.str (ay z.natAbs)):=by
   rw[lI h.abw,hb];show Ix (AV.str (bif jb [45] (b::r0) then _ else _))=_
   rw[XY qK];rfl
  have lf:∃s w,ah P L 110 [.str (aU z)] (.agg [aa s,w])/\dD s w (z.natAbs:Int):=by
   rw[hs];unfold ah;rw[aB h.amC];simp only[go_sem,ya,yb,Uw,aG,e1,e2,un.pu,un.one,eD un];generalize hq:D P L (.loop _ Ja) _=q;obtain⟨ex,st,rfl,tm,s,w,rfl,rfl,t2,t3,t4,h5⟩:=bg hq (ajI (P:=P) (L:=L) h hN DA (neg:=ycP) (o1:=.int .i64 0) (o2:=.ae) (ay z.natAbs).length) ⟨[],ay z.natAbs,0,0,.ae,by simp only[go_sem,ya,yb,ao]<;>rfl,rfl,rfl,.inl ⟨rfl,rfl,by decide,by decide⟩,rfl⟩
   have⟨l5,u5⟩:=h5.aH;refine⟨s,w,?_,h5⟩;simp only[go_sem,ya,yb,ao,t2,t3,t4,cF,de,df,cF,yh,qg u5,eD u5]
  have⟨s,w,g1,g2⟩:=lf;rw[show ((z.natAbs:Nat):Int)=z by lia] at g2;exact⟨_,g1,s,w,rfl,g2⟩
def MV(b:Nat)(r:List Nat)(c:Nat):jb [c] (b::r)=yG c b:=by
 show (yG c b&&ycO)=_
 grind
def aeU:∀(l r:List Nat) (k:Nat),(∀x,x∈l->x≠47)->pU [47] (l++47::r) k=Ix (k+l.length)
 | [],r,k,_=>by
  show (bif jb [47] (47::r) then Ix k else _)=_
  rw[MV];rfl
 | b::l,r,k,h=>by
  show (bif jb [47] (b::(l++47::r)) then Ix k else pU [47] (l++47::r) (k+1))=_
  rw[MV,jL (fun e=>h b (by simp) e.symm),y5,aeU l r (k+1) (fun x hx=>h x (by simp[hx])),yB]
  grind
def index_none:∀(l:List Nat) (k:Nat),(∀x,x∈l->x≠47)->pU [47] l k=none
 | [],k,_=>rfl
 | b::l,k,h=>by
  show (bif jb [47] (b::l) then Ix k else pU [47] l (k+1))=_
  rw[MV,jL (fun e=>h b (by simp) e.symm),y5,index_none l (k+1) (fun x hx=>h x (by simp[hx]))]
def ahv:∀{l:List Nat},dK l=ycO->∀x,x∈l->48<=x/\x<=57
 | [],_,x,hx=>by simp at hx
 | b::l,h,x,hx=>by
  have h1:=XX h;simp only[dK,yj] at h;rcases wj.1 hx with rfl | hx
  .grind
  .exact ahv h.2 x hx
def apP(z:Int):∀x,x∈aU z->x≠47:=fun x hx=>by
 rw[<-rZ] at hx;rcases List.mem_append.1 hx with h | h
 .grind
 .have:=ahv (CA _) x h;lia
def m62(h:Tx P L){a:Rat}(hl:(RT a).length<4000000000):∃r,ah P L 62 [.str (RT a)] r/\bE r a:=by
 have KH:=apP a.num;unfold RT at hl ⊢;by_cases hd:a.den=1
 .rw [yK hd,wh] at hl ⊢;have⟨p,e1,hp⟩:=Pk h (z:=a.num) (by lia);have⟨r,e2,hr⟩:=Ph h.toFr' hp;rw[<-YW a hd] at hr;have bt:=hr;obtain⟨s1,w1,rfl,h1⟩:=hp;obtain⟨s2,w2,s3,w3,rfl,h2,h3⟩:=hr;have⟨l1,u1⟩:=h1.aH;have⟨l2,u2⟩:=h2.aH;have⟨l3,u3⟩:=h3.aH;have e0:bM P L (D P L) 109 [.str (aU a.num),.str [47]]=Ix (.ax [.str (aU a.num),.str [],.bool ycP]):=by
   rw[lI h.aby];show (bif yU (aU a.num).length 4294967281 then (match pU [47] (aU a.num) 0 with | some i=>_ | none=>Ix (AV.ax [.str (aU a.num),.str [],.bool ycP])) else none)=_
   rw[nA (by lia),index_none _ _ KH];rfl
  refine⟨_,?_,bt⟩;unfold ah;rw[aB h.WJ];simp only[go_sem,ya,yb,V7,aG,e0,e1,bf,u1.af,a7,e2,om u2 u3,de,df,yh,gP,oW u2 u3]
 .rw [yx hd] at hl ⊢;simp only[yE,yB] at hl;have⟨p,e1,hp⟩:=Pk h (z:=a.num) (by lia);have⟨q,e2,hq⟩:=Pk h (z:=(a.den:Int)) (by rw[nS];lia)
  rw[nS] at e2;obtain⟨s1,w1,rfl,h1⟩:=hp;obtain⟨s2,w2,rfl,h2⟩:=hq;have⟨l1,u1⟩:=h1.aH;have⟨l2,u2⟩:=h2.aH;have e0:bM P L (D P L) 109 [.str (aU a.num++47::ay a.den),.str [47]]=Ix (.ax [.str (aU a.num),.str (ay a.den),.bool ycO]):=by
   rw[lI h.aby];show (bif yU (aU a.num++47::ay a.den).length 4294967281 then (match pU [47] (aU a.num++47::ay a.den) 0 with | some i=>Ix (AV.ax [.str ((aU a.num++47::ay a.den).take i),.str ((aU a.num++47::ay a.den).drop (i+1)),.bool ycO]) | none=>_) else none)=_
   rw[nA (by simp;lia),aeU _ _ _ KH]
   simp only[yd,yN,tg];rw[show (aU a.num).length+1=(aU a.num++[47]).length by simp,show aU a.num++47::ay a.den=(aU a.num++[47])++ay a.den by simp,um]
  refine⟨.agg [aa s1,w1,aa s2,w2],?_,s1,w1,s2,w2,rfl,h1,h2⟩;unfold ah;rw[aB h.WJ];simp only[go_sem,ya,yb,V7,aG,e0,e1,e2,bf,u1.one,u2.one,I1,I2,om u1 u2,de,df,yh,gP,oW u1 u2]
def eh(p:List Nat):Bool:=dK p&&(match p with | []=>ycP | b::r=> !(yG b 48)||r.isEmpty)
def gU(p:List Nat):Nat:=(da p 0).getD 0
def qD(neg:Bool)(t:List Nat):Int:=
 if eh (t.take (bY t))=ycP\/(neg=ycO/\t.take (bY t)=[48]) then 1
 else if bY t<t.length/\(eh (t.drop (bY t+1))=ycP\/t.drop (bY t+1)=[48]\/t.drop (bY t+1)=[49]) then 1
 else if 600<bY t\/600<t.length-bY t-1 then 4
 else if bY t<t.length/\wX (gU (t.take (bY t))) (gU (t.drop (bY t+1)))≠1 then 1
 else 0
def aM:List Nat->Int
 | []=>qD ycP []
 | b::t=>if b=45 then qD ycO t else qD ycP (b::t)
def ahw:∀{p:List Nat} (a:Nat),dK p=ycO->∃n,da p a=Ix n
 | [],a,_=>⟨a,rfl⟩
 | b::r,a,h=>by
  have h':=h;simp only[dK,yj] at h';have⟨n,hn⟩:=ahw (p:=r) (10*a+(b-48)) h'.2;exact⟨n,by simp only[da,h'.1.1,h'.1.2,xt,yN];exact hn⟩
def IQ:∀(k:Nat) {p:List Nat},p.length=k->eh p=ycO->ay (gU p)=p:=by
 intro k
 induction k with
 | zero=>intro p hl h;rw[yu hl] at h;simp[eh] at h
 | succ k ih=>
  intro p hl h;rcases snoc p with rfl | ⟨m,a,rfl⟩
  .grind
  .simp only [eh,yj,Rg] at h;have⟨⟨h1,h2⟩,h3⟩:=h;simp only[dK,yj] at h2;have ha1:=yF h2.1.1;have ha2:=yF h2.1.2;have⟨n,hn⟩:=ahw 0 h1;have hv:gU (m++[a])=10*n+(a-48):=by
    unfold gU;rw[M4,hn];simp only[wR,da,h2.1.1,h2.1.2,xt,yN,Option.getD_some]
   cases m with
   | nil=>
    have:n=0:=by simpa[da] using hn.symm
    rw[hv,rY (by lia)]
    simp;lia
   | cons b r=>
    have hd:eh (b::r)=ycO:=by
     simp only[eh,h1,xQ]
     cases r with
     | nil=>simp
     | cons c r=>simp at h3 ⊢;exact h3
    have hm:=ih (p:=b::r) (by simpa using hl) hd;have hnv:gU (b::r)=n:=by unfold gU;rw[hn];rfl
    rw[hnv] at hm;have qJ:n≠0:=fun e=>by
     rw[rY (by lia)] at hm
     simp_all
    rw[hv,zy (by lia),show (10*n+(a-48))/10=n by lia,show 48+(10*n+(a-48))%10=a by lia,hm]
def aet(t:List Nat):bY t<t.length->t=t.take (bY t)++47::t.drop (bY t+1):=by
 induction t with
 | nil=>simp
 | cons b r ih=>
  intro h;simp only[bY] at h ⊢
  grind
def ags{n:Int}(hd:0<d)(hg:wX n.natAbs d=1):∃r:Rat,r.num=n/\r.den=d:=⟨⟨n,d,by lia,hg⟩,rfl,rfl⟩
def aAn{s:List Nat}(h:aM s=0):∃r:Rat,s=RT r/\(ay r.num.natAbs).length<=600/\(ay r.den).length<=600:=by
 have key:∀(neg:Bool) (t:List Nat),qD neg t=0->∃r:Rat,(if neg=ycO then [45] else [])++t=RT r/\(ay r.num.natAbs).length<=600/\(ay r.den).length<=600:=by
  intro neg t h;unfold qD at h
  split at h
  .grind
  rename_i h1
  split at h
  .grind
  rename_i h2
  split at h
  .grind
  rename_i h3
  split at h
  .grind
  rename_i h4;have hle:=MT t;have hp:eh (t.take (bY t))=ycO:=by
   cases hb:eh (t.take (bY t)) with
   | true=>rfl
   | false=>exact absurd (.inl hb) h1
  have Bf:=IQ _ rfl hp;generalize hn:gU (t.take (bY t))=n at*
  have aCk:neg=ycO->n≠0:=fun hh e=>by
   subst e;exact h1 (.inr ⟨hh,by rw[<-Bf];rfl⟩)
  have hint:(if neg=ycO then [45] else [])++ay n=aU (if neg=ycO then -(n:Int) else n):=by
   cases neg with
   | true=>
    have:=aCk rfl
    simp only[xL];rw[mZ (by lia)]
    simp
   | false=>simp[nS]
  have abG:(if neg=ycO then -(n:Int) else n).natAbs=n:=by split<;>lia
  have hln:(ay n).length<=600:=by rw[Bf,yJ];lia
  by_cases hs:bY t<t.length
  .have hq:eh (t.drop (bY t+1))=ycO:=by
    cases hb:eh (t.drop (bY t+1)) with
    | true=>rfl
    | false=>exact absurd ⟨hs,.inl hb⟩ h2
   have zc:=IQ _ rfl hq;have hg:wX n (gU (t.drop (bY t+1)))=1:=by
    grind
   have nk:=aet t hs;have Qs:(t.drop (bY t+1)).length<=600:=by rw[xZ];lia
   rw[<-zc] at nk Qs;have iM:gU (t.drop (bY t+1))≠0:=fun e=>by
    rw[e] at zc;exact h2 ⟨hs,.inr (.inl (by rw[<-zc];rfl))⟩
   have iw:gU (t.drop (bY t+1))≠1:=fun e=>by
    rw[e] at zc;exact h2 ⟨hs,.inr (.inr (by rw[<-zc];rfl))⟩
   generalize gU (t.drop (bY t+1))=d at*
   have⟨r,bQ,ep⟩:=ags (n:=if neg=ycO then -(n:Int) else n) (d:=d) (by lia) (by rw[abG];exact hg)
   refine⟨r,?_,by rw[bQ,abG];exact hln,by rw[ep];exact Qs⟩
   unfold RT;rw[bQ,ep,yx iw,<-hint,xu]
   congr 1
   rw[Bf];exact nk
  .have ht:t.take (bY t)=t:=yq (by lia);rw[ht] at Bf;have⟨r,bQ,ep⟩:=ags (n:=if neg=ycO then -(n:Int) else n) (d:=1) (by lia) (Nat.gcd_one_right _);refine⟨r,?_,by rw[bQ,abG];exact hln,by rw[ep];decide⟩
   unfold RT;rw[bQ,ep,yK rfl,<-hint,wh,Bf]
 cases s with
 | nil=>exact absurd h (by decide)
 | cons b t=>
  simp only[aM] at h
  split at h
  .rename_i hb;subst hb;exact key ycO t h
  .exact key ycP (b::t) h
namespace Nd
structure Ord(n:Nat)(l:List Int):Prop where
 len:l.length=n
 Ab:∀a,a<n->0<=l.getD a 0/\l.getD a 0<n
 inj:∀a b,a<n->b<n->l.getD a 0=l.getD b 0->a=b
end Nd
namespace Nd
open Go (IntKind)
abbrev ah(P:aJ)(L:Lib)(f:Nat)(az:List AV)(r:AV):Prop:=bM P L (D P L) f az=Ix r
def stS{id o:Nat}{v:Int}{l:List Int}(h:o<l.length):fN hp ct id o 1 [.int .i64 v] (Ix (.cells ycO ycO ex 1 (l.map aa)))=Ix (.ax [],aV hp id (.cells ycO ycO ex 1 ((l.set o v).map aa)),ct):=by
 rw[mb (by rfl) (by simp;lia) (by rfl)]
 have:over o [AV.int .i64 v] (l.map aa)=(l.set o v).map aa:=by
  simp only[over,yB,yI,yd];rw[ybB,uC,yK (by simpa using h)]
  simp
 rw[this];rfl
def rF(h:Has P L 124 J4)(b:Bool)(n:Int):ah P L 124 [.bool b,aa n] (aa (if b=ycO then n else 0)):=by
 unfold ah;rw[aB h]
 cases b with
 | true=>simp only[go_sem,ya,J4,xL]
 | false=>simp only[go_sem,ya,J4];rfl
def abH(h:Has P L 125 Uz){l:List Int}(hv:bl v l)(hl:l.length<=1000000):ah P L 125 [v] (aa (a6 l)):=by
 unfold ah;rw[aB h];simp only[go_sem,ya,Uz,hv.len];have key:=MZ (P:=P) (L:=L) (live:=[5,6,7]) (a:=SY)
  (I:=fun k s=>∃tm ct i,s=⟨tm,[],ct,0⟩/\ab tm 5=v/\ab tm 6=aa l.length/\ab tm 7=aa (i:Nat)/\i+k=l.length/\a6 (l.drop i)=a6 l)
  (Q:=fun ex s=>∃tm,s=⟨tm,[],0,0⟩/\((ex=.ret/\ab tm 2=aa (a6 l))\/(ex=.exit 0/\a6 l=0))) ?_ l.length
 .generalize hq:D P L (.loop _ SY) _=q;obtain⟨ex,s,rfl,tm,rfl,h2⟩:=bg hq key ⟨_,_,0,rfl,rfl,rfl,rfl,by lia,rfl⟩;rcases h2 with ⟨rfl,h2⟩ | ⟨rfl,h2⟩
  .simp only [go_sem,h2]
  .rw [h2];simp only[go_sem]
 .rintro k s ⟨tm,ct,i,rfl,h5,h6,h7,hk,hf⟩;rw[Rc (by simp only[go_sem,h5,h6,h7,hv.pu])];simp only[go_sem,ya,h5,h6,h7,SY];by_cases hi:i<l.length
  .have bD:(i:Int)<l.length:=by lia
   rw[Xh hi] at hf;by_cases hz:l[i]=0
   .left
    simp only[go_sem,ya,bD,hv.aT hi,hz];refine⟨_,k-1,rfl,by lia,_,_,i+1,rfl,?_⟩;rw[wrap64 (by lia) (by lia)];rw[yK hz] at hf;simp only[go_sem,ya];exact⟨trivial,trivial,rfl,by lia,hf⟩
   .right
    simp only[go_sem,ya,bD,hv.aT hi,hz];rw[yx hz] at hf;refine⟨_,_,rfl,by simp,_,rfl,.inl ⟨rfl,?_⟩⟩;simp only[go_sem,hf]
  .right
   have bD:¬(i:Int)<l.length:=by lia
   simp only[go_sem,bD];refine⟨_,_,rfl,by simp,_,rfl,.inr ⟨rfl,?_⟩⟩;rw[<-hf,yY (by lia)];rfl
end Nd
section
variable {a b p:List Nat}
def ahx(i:Nat):JY i [48,49,50,51,52,53,54,55,56,57]=(yO 48 i&&yO i 57):=by
 by_cases h:48<=i/\i<=57
 .have ⟨h1,h2⟩:=h;obtain⟨k,rfl⟩:∃k,i=48+k:=⟨i-48,by lia⟩;rcases (show k=0\/k=1\/k=2\/k=3\/k=4\/k=5\/k=6\/k=7\/k=8\/k=9 by lia) with rfl | rfl | rfl | rfl | rfl | rfl | rfl | rfl | rfl | rfl<;>rfl
 .have e:(yO 48 i&&yO i 57)=ycP:=by
   cases h1:yO 48 i with
   | false=>rfl
   | true=>
    cases h2:yO i 57 with
    | false=>rfl
    | true=>exact absurd ⟨yF h1,yF h2⟩ h
  rw[e];have ne:∀c,48<=c->c<=57->yG c i=ycP:=fun c h1 h2=>jL (by lia)
  simp only[JY,ne 48 (by decide) (by decide),ne 49 (by decide) (by decide),ne 50 (by decide) (by decide),ne 51 (by decide) (by decide),ne 52 (by decide) (by decide),ne 53 (by decide) (by decide),ne 54 (by decide) (by decide),ne 55 (by decide) (by decide),ne 56 (by decide) (by decide),ne 57 (by decide) (by decide),y5]
def XZ:∀l:List Nat,od [48,49,50,51,52,53,54,55,56,57] l=[]↔dK l=ycO
 | []=>by simp[od,dK]
 | b::r=>by
  simp only[od,dK,ahx]
  cases hb:(yO 48 b&&yO b 57) with
  | true=>simp only[yN,xQ];exact XZ r
  | false=>simp
def Sa:∀l:List Nat,dK l.reverse=dK l
 | []=>rfl
 | b::r=>by rw[List.reverse_cons,Rg,Sa r];simp[dK,Bool.and_comm]
def aey:∀l:List Nat,dK l=ycP->dK (od [48,49,50,51,52,53,54,55,56,57] l)=ycP
 | [],h=>by simp[dK] at h
 | b::r,h=>by
  simp only[od,ahx]
  cases hb:(yO 48 b&&yO b 57) with
  | true=>
   simp only[dK,hb,xQ] at h;exact aey r h
  | false=>simp only[y5];exact h
def au2(p:List Nat):cU (od [48,49,50,51,52,53,54,55,56,57] (od [48,49,50,51,52,53,54,55,56,57] p.reverse).reverse) []=dK p:=by
 cases hd:dK p with
 | true=>
  have h1:=(XZ p.reverse).2 (by rw[Sa];exact hd)
  rw[h1];rfl
 | false=>
  have h1:=aey p.reverse (by rw[Sa];exact hd)
  have h2:dK (od [48,49,50,51,52,53,54,55,56,57] p.reverse).reverse=ycP:=by rw[Sa];exact h1
  cases hq:od [48,49,50,51,52,53,54,55,56,57] (od [48,49,50,51,52,53,54,55,56,57] p.reverse).reverse with
  | nil=>have:=(XZ _).1 hq;rw[h2] at this;exact absurd this (by decide)
  | cons b r=>rfl
def aez:∀(t:List Nat) (k:Nat),pU [47] t k=if bY t<t.length then Ix (k+bY t) else none
 | [],k=>by simp[pU,jb,bY]
 | b::r,k=>by
  by_cases hb:b=47
  .subst hb;have e:bY (47::r)=0:=by simp[bY]
   rw[e,yK (by simp)];rfl
  .have e:bY (b::r)=bY r+1:=by simp[bY,hb]
   have hp:jb [47] (b::r)=ycP:=by rw[MV];exact jL (fun e=>hb e.symm)
   rw[e,pU,hp,y5,aez r (k+1)]
   grind
def CL(a b:List Nat):binOp .neq (.str a) (.str b)=Ix (.bool (!(cU a b))):=rfl
structure Ck(P:aJ)(L:Lib):Prop extends Tx P L where
 aEA:L.pure 128=Ix Rw
 aEB:L.pure 162=Ix trimS
 h86:Has P L 86 gL
 zY:Has P L 124 J4
 abI:Has P L 125 Uz
 aEC:Has P L 129 J5
def rF(h:Has P L 124 J4)(b:Bool)(n:Int):ah P L 124 [.bool b,aa n] (aa (if b=ycO then n else 0)):=Nd.rF h b n
def amH(h:Ck P L)(hl:p.length<=4000000000):ah P L 129 [.str p] (.bool (eh p)):=by
 have e1:bM P L (D P L) 162 [.str p,.str [48,49,50,51,52,53,54,55,56,57]]=Ix (.str (od [48,49,50,51,52,53,54,55,56,57] (od [48,49,50,51,52,53,54,55,56,57] p.reverse).reverse)):=by
  rw[lI h.aEB];show (bif I9 [48,49,50,51,52,53,54,55,56,57]&&(yU p.length 4294967281&&yU 10 4294967281) then _ else none)=_
  rw[nA (by lia)];rfl
 have e2:=au2 p;unfold ah;rw[aB h.aEC]
 match p,e1,e2 with
 | [],_,_=>
  simp only[go_sem,ya,J5,CL,show cU [] []=ycO from rfl,yM];rfl
 | b::r,e1,e2=>
  have hI:rm 0 (.str (b::r))=Ix (.int .u8 (b:Nat)):=rfl;have h0:cU (b::r) []=ycP:=rfl;have hd:eh (b::r)=(dK (b::r)&&(!(yG b 48)||r.isEmpty)):=rfl;rw[hd]
  cases oM:dK (b::r) with
  | false=>
   rw[oM] at e2;simp only[go_sem,ya,J5,CL,h0,yQ,e1,pQ,e2,xI]
  | true=>
   rw[oM] at e2;by_cases hb:b=48
   .subst hb;have e3:cU (48::r) [48]=r.isEmpty:=by
     cases r with
     | nil=>rfl
     | cons c r=>rfl
    have hI':rm 0 (.str (48::r))=Ix (.int .u8 48):=rfl;simp only[go_sem,ya,J5,CL,h0,yQ,e1,pQ,e2,hI',yo,yM,e3];rfl
   .have:yG b 48=ycP:=jL hb
    rw[this];simp only[go_sem,ya,J5,CL,h0,yQ,e1,pQ,e2,hI,show ¬((b:Nat):Int)=48 by lia,yp,yQ];rfl
def aED(h:Ck P L)(s:List Nat):bM P L (D P L) 128 [.str s,.str [45]]=Ix (if s.head? =Ix 45 then .ax [.str s.tail,.bool ycO] else .ax [.str s,.bool ycP]):=by
 rw[lI h.aEA];show Ix (bif jb [45] s then AV.ax [.str (s.drop 1),.bool ycO] else .ax [.str s,.bool ycP])=_
 cases s with
 | nil=>rfl
 | cons b r=>
  by_cases hb:b=45
  .subst hb;rfl
  .have:jb [45] (b::r)=ycP:=by rw[MV];exact jL (fun e=>hb e.symm)
   grind
def aEE(h:Ck P L){t:List Nat}(hl:t.length<=4000000000):bM P L (D P L) 109 [.str t,.str [47]]=Ix (.ax [.str (t.take (bY t)),.str (t.drop (bY t+1)),.bool (decide (bY t<t.length))]):=by
 rw[lI h.aby];show (bif yU t.length 4294967281 then (match pU [47] t 0 with | some i=>Ix (AV.ax [.str (t.take i),.str (t.drop (i+1)),.bool ycO]) | none=>Ix (AV.ax [.str t,.str [],.bool ycP])) else none)=_
 rw[nA (by lia),aez];by_cases hs:bY t<t.length
 .grind
 .rw [yx hs,xn hs,yq (by lia),yY (by lia)];rfl
def ard{P:aJ}{L:Lib}(a b c d:VC)(s:St):D P L (.seq a (.seq b (.seq c d))) s=ju P L (D P L (.seq a (.seq b c)) s) d:=by
 have e:=Gh (P:=P) (L:=L) b c d;rw[nv,nv]
 cases D P L a s with
 | none=>rfl
 | some q=>
  have⟨ex,st⟩:=q
  cases ex with
  | normal=>rw[il,il];exact e st
  | ret=>rfl
  | exit id=>rfl
def asP{P:aJ}{L:Lib}(a b c d f:VC)(s:St):D P L (.seq a (.seq b (.seq c (.seq d f)))) s=ju P L (D P L (.seq a (.seq b (.seq c d))) s) f:=by
 have e:=ard (P:=P) (L:=L) b c d f;rw[nv,nv]
 cases D P L a s with
 | none=>rfl
 | some q=>
  have⟨ex,st⟩:=q
  cases ex with
  | normal=>rw[il,il];exact e st
  | ret=>rfl
  | exit id=>rfl
def No(h:a=b):cU a b=ycO:=by
 subst h
 induction a with
 | nil=>rfl
 | cons x a ih=>simp[cU,ih]
def Y0(h:a≠b):cU a b=ycP:=by
 cases hb:cU a b with
 | false=>rfl
 | true=>
  exact absurd (by
   clear h;revert b
   induction a with
   | nil=>intro b hb;cases b with | nil=>rfl | cons y b=>simp[cU] at hb
   | cons x a ih=>
    intro b hb
    cases b with
    | nil=>simp[cU] at hb
    | cons y b=>
     simp only[cU,yj] at hb
     rw[yz hb.1,ih hb.2]) h
def aCl(h:Ck P L){q:List Nat}{ok found:Bool}(lp:p.length<=1000000000)(lq:q.length<=1000000000)(cN:ok=ycO->eh p=ycO/\(found=ycO->eh q=ycO))(t5:ab tm 5=.str p)(t6:ab tm 6=.str q)(t7:ab tm 7=.bool found)(t8:ab tm 8=.bool ok):
  fp [.t 2] (D P L (aA (aA (aA (aA (aA gL.body))))) ⟨tm,[],0,0⟩)=Ix (aa (
   if ok=ycP then 1
   else if 600<p.length\/600<q.length then 4
   else if found=ycO/\wX (gU p) (gU q)≠1 then 1
   else 0)):=by
 have w1:=rF h.zY (!ok) 1;have WR:∀a b:Int,ah P L 125 [.aF ycO 2 [aa a,aa b]] (aa (a6 [a,b])):=fun a b=>Nd.abH h.abI (fZ ycO [a,b]) (by simp)
 cases ok with
 | false=>
  have f1:=WR 1 0;have f2:=WR 1 4;have w2:=rF h.zY ycP 4;have w3:=rF h.zY ycO 4;simp only[yQ,xL,yH,xr] at w1 w2 w3;rw[show a6 [1,0]=1 by decide] at f1;rw[show a6 [1,4]=1 by decide] at f2;unfold ah at w1 w2 w3 f1 f2;by_cases h1:600<p.length
  .simp only [go_sem,ya,yb,yA,yi,yf,gL,aA,show ¬(1:Int)=0 by decide,yQ,t5,t8,yQ,w1,show (600:Int)<(p.length:Int) by lia,yo,w3,f2,yp]
   simp
  .by_cases h2:600<q.length
   .simp only [go_sem,ya,yb,yA,yi,yf,gL,aA,show ¬(1:Int)=0 by decide,yQ,t5,t6,t8,yQ,w1,show ¬(600:Int)<(p.length:Int) by lia,show (600:Int)<(q.length:Int) by lia,yo,yp,w3,f2]
    simp
   .simp only [go_sem,ya,yb,yA,yi,yf,gL,aA,show ¬(1:Int)=0 by decide,yQ,t5,t6,t8,yQ,w1,show ¬(600:Int)<(p.length:Int) by lia,show ¬(600:Int)<(q.length:Int) by lia,yp,w2,f1]
    simp
 | true=>
  have⟨hp,hq⟩:=cN rfl;have f1:=WR 0 0;have f2:=WR 0 4;have w2:=rF h.zY ycP 4;have w3:=rF h.zY ycO 4;have w4:=rF h.zY ycP 1;have w5:=rF h.zY ycO 1;simp only[yM,xL,yH,xr] at w1 w2 w3 w4 w5;rw[show a6 [0,0]=0 by decide] at f1;rw[show a6 [0,4]=4 by decide] at f2;unfold ah at w1 w2 w3 w4 w5 f1 f2;rw[yx (by decide)];by_cases h1:600<p.length
  .rw [yK (.inl h1)];simp only[go_sem,ya,yb,yA,yi,yf,gL,aA,show ¬(4:Int)=0 by decide,yQ,t5,t8,yM,w1,show (600:Int)<(p.length:Int) by lia,yo,w3,f2,yp]
  .by_cases h2:600<q.length
   .rw [yK (.inr h2)];simp only[go_sem,ya,yb,yA,yi,yf,gL,aA,show ¬(4:Int)=0 by decide,yQ,t5,t6,t8,yM,w1,show ¬(600:Int)<(p.length:Int) by lia,show (600:Int)<(q.length:Int) by lia,yo,yp,w3,f2]
   .rw [yx (by lia)]
    cases found with
    | false=>
     rw[yx (by simp)];simp only[go_sem,ya,yb,yA,yi,yf,gL,aA,t5,t6,t7,t8,yM,w1,show ¬(600:Int)<(p.length:Int) by lia,show ¬(600:Int)<(q.length:Int) by lia,yo,yp,w2,f1]
    | true=>
     have Bf:=IQ _ rfl hp;have zc:=IQ _ rfl (hq rfl);generalize gU p=n at*
     generalize gU q=d at*
     subst Bf;subst zc;obtain⟨M,hM⟩:∃M:Nat,M=2400:=⟨_,rfl⟩;have bd:∀{m:Nat},(ay m).length<=600->Bd M (m:Int):=fun {m} hm=>by
      have h1:=Nl m;have h2:=Nn (ay m).length;have h3:(2:Nat)^(4*(ay m).length)<=2^M:=y9 (by decide) (by lia);unfold Bd;rw[wA];exact yT h1 (xB h2 h3)
     have⟨x,e1,hx⟩:=Pk h.toTx (z:=(n:Int)) (by rw[nS];lia)
     have⟨y,e2,hy⟩:=Pk h.toTx (z:=(d:Int)) (by rw[nS];lia)
     rw[nS] at e1 e2;have kn:=bd (m:=n) (by lia);have kd:=bd (m:=d) (by lia);have⟨g,e3,hg⟩:=amy h.toNu hx hy kn kd (by lia);have⟨e4,Fu⟩:=Hx h.toNu (z:=1) (by decide) (by decide);have kg:Bd M ((vE (n:Int) (d:Int):Nat):Int):=by
      rcases xE d with h0 | h0
      .subst h0;simpa using kn
      .exact kd.le (by have:=Nat.gcd_le_right n h0;simpa using this)
     have e5:=amu h.toNu hg Fu (K:=M) kg (by unfold Bd;exact vO (by lia)) (by lia)
     have aEF:vE (n:Int) (d:Int)=wX n d:=rfl;rw[aEF] at e5;obtain⟨xs,xw,rfl,zd⟩:=hx;obtain⟨ys,yw,rfl,mq⟩:=hy;obtain⟨gs,gw,rfl,Ik⟩:=hg;have⟨l1,u1⟩:=zd.aH;have⟨l2,u2⟩:=mq.aH;have⟨l3,u3⟩:=Ik.aH;by_cases jS:wX n d=1
     .rw [yx (by simp[jS])];have hs:cA (((wX n d:Nat):Int)-1)=0:=by rw[jS];rfl
      rw[hs] at e5;simp only[go_sem,ya,yb,yA,yi,yf,gL,aA,t5,t6,t7,t8,yM,w1,show ¬(600:Int)<((ay n).length:Int) by lia,show ¬(600:Int)<((ay d).length:Int) by lia,yo,yp,w2,f1,e1,e2,u1.af,u2.af,u3.af,bf,a7,e3,e4,e5]
     .rw [yK ⟨rfl,jS⟩];obtain⟨c,hc,oG⟩:∃c,cA (((wX n d:Nat):Int)-1)=c/\c≠0:=⟨_,rfl,fun e=>jS (by
       unfold cA at e
       split at e
       .exact absurd e (by decide)
       .split at e
        .lia
        .exact absurd e (by decide))⟩
      rw[hc] at e5;simp only[go_sem,ya,yb,yA,yi,yf,gL,aA,yQ,t5,t6,t7,t8,yM,w1,show ¬(600:Int)<((ay n).length:Int) by lia,show ¬(600:Int)<((ay d).length:Int) by lia,yo,yp,w2,f1,e1,e2,u1.af,u2.af,u3.af,bf,a7,e3,e4,e5,oG,yQ,w5]
def Il(h:Ck P L){s:List Nat}(hl:s.length<=1000000000):ah P L 86 [.str s] (aa (aM s)):=by
 have key:∀(neg:Bool) (t:List Nat),t.length<=1000000000->bM P L (D P L) 128 [.str s,.str [45]]=Ix (.ax [.str t,.bool neg])->ah P L 86 [.str s] (aa (qD neg t)):=by
  intro neg t hl e0;have e1:=aEE h (t:=t) (by lia);obtain⟨k,hk⟩:∃k,k=bY t:=⟨_,rfl⟩;have Ms:k<=t.length:=by rw[hk];exact MT t
  have e2:=amH h (p:=t.take k) (by rw[yJ];lia)
  have e3:=amH h (p:=t.drop (k+1)) (by rw[xZ];lia)
  have lp:(t.take k).length=k:=by rw[yJ];lia
  have lq:(t.drop (k+1)).length=t.length-k-1:=by rw[xZ];lia
  unfold qD;rw[<-hk] at e1 ⊢;generalize hp:t.take k=p at*
  generalize hq:t.drop (k+1)=q at*
  obtain⟨FP,B4⟩:∃ok:Bool,ok=(eh p&&(!neg|| !(cU p [48]))):=⟨_,rfl⟩;obtain⟨ok,cN⟩:∃ok:Bool,ok=(FP&&(!(decide (k<t.length))||(eh q&&(!(cU q [48])&& !(cU q [49]))))):=⟨_,rfl⟩
  have U6:(if eh p=ycP\/(neg=ycO/\p=[48]) then 1
    else if k<t.length/\(eh q=ycP\/q=[48]\/q=[49]) then 1
    else if 600<k\/600<t.length-k-1 then 4
    else if k<t.length/\wX (gU p) (gU q)≠1 then 1 else 0:Int)=(if ok=ycP then 1
    else if 600<p.length\/600<q.length then 4
    else if decide (k<t.length)=ycO/\wX (gU p) (gU q)≠1 then 1
    else 0):=by
   rw[lp,lq];have a1:(eh p=ycP\/(neg=ycO/\p=[48]))↔FP=ycP:=by
    rw[B4];cases eh p<;>cases neg<;>simp
    by_cases e:p=[48]
    .simp [e,No]
    .simp [e,Y0 e]
   have a2:ok=ycP↔(FP=ycP\/(k<t.length/\(eh q=ycP\/q=[48]\/q=[49]))):=by
    rw[cN];by_cases hs:k<t.length
    .simp only [hs,yo,yM,vS,tZ];cases FP<;>cases eh q<;>simp
     by_cases e:q=[48]
     .simp [e,No]
     .by_cases e':q=[49]
      .simp [e',No]
      .simp [e,e',Y0 e,Y0 e']
    .simp [hs]
   by_cases h1:FP=ycP
   .rw [yK (a1.2 h1),yK (a2.2 (.inl h1))]
   .rw [yx (fun e=>h1 (a1.1 e))];by_cases h2:k<t.length/\(eh q=ycP\/q=[48]\/q=[49])
    .rw [yK h2,yK (a2.2 (.inr h2))]
    .rw [yx h2,yx (fun e=>(a2.1 e).elim h1 h2)];simp only[wN]
  rw[U6];have aEG:ok=ycO->eh p=ycO/\(decide (k<t.length)=ycO->eh q=ycO):=fun e=>by
   rw[cN,yj] at e;have⟨e1,e2⟩:=e;rw[B4,yj] at e1;refine⟨e1.1,fun hs=>?_⟩;rw[hs,yM,vS,yj] at e2;exact e2.1
  have tail:∀tm,ab tm 5=.str p->ab tm 6=.str q->ab tm 7=.bool (decide (k<t.length))->ab tm 8=.bool ok->fp [.t 2] (D P L (aA (aA (aA (aA (aA gL.body))))) ⟨tm,[],0,0⟩)=_:=fun tm t5 t6 t7 t8=>
   aCl h (by lia) (by lia) aEG t5 t6 t7 t8
  have mid:∀tm,ab tm 5=.str p->ab tm 6=.str q->ab tm 7=.bool (decide (k<t.length))->ab tm 8=.bool FP->
    ∃tm',D P L (aX (aA (aA (aA (aA gL.body))))) ⟨tm,[],0,0⟩=Ix (.normal,⟨tm',[],0,0⟩)/\ab tm' 5=.str p/\ab tm' 6=.str q/\ab tm' 7=.bool (decide (k<t.length))/\ab tm' 8=.bool ok:=fun tm t5 t6 t7 t8=>by
   unfold ah at e3;by_cases hs:k<t.length
   .rw [xG hs] at t7 cN ⊢;simp only[yM,vS] at cN
    cases FP with
    | false=>
     rw[xI] at cN;subst cN;refine⟨_,by simp only[go_sem,ya,gL,aX,aA,t7,t8]<;>rfl,?_⟩
     simp only[go_sem,ya,t5,t6,t7,tZ]
    | true=>
     rw[xQ] at cN
     cases hd:eh q with
     | false=>
      rw[hd] at e3 cN;rw[xI] at cN;subst cN;refine⟨_,by simp only[go_sem,ya,gL,aX,aA,t6,t7,t8,e3]<;>rfl,?_⟩
      simp only[go_sem,ya,t5,t6,t7,tZ]
     | true=>
      rw[hd] at e3 cN;rw[xQ] at cN
      cases mo:cU q [48] with
      | true=>
       rw[mo,yM,xI] at cN;subst cN;refine⟨_,by simp only[go_sem,ya,gL,aX,aA,t6,t7,t8,e3,CL,mo,yM]<;>rfl,?_⟩
       simp only[go_sem,ya,t5,t6,t7,tZ]
      | false=>
       rw[mo,yQ,xQ] at cN;subst cN;refine⟨_,by simp only[go_sem,ya,gL,aX,aA,t6,t7,t8,e3,CL,mo,yQ]<;>rfl,?_⟩
       simp only[go_sem,ya,t5,t6,t7,tZ]
   .rw [xn hs] at t7 cN ⊢;simp only[yQ,yar,vV] at cN;subst cN;refine⟨_,by simp only[go_sem,gL,aX,aA,t7]<;>rfl,?_⟩
    simp only[go_sem,ya,t5,t6,t7,t8,tZ]
  have fin:∀tm,ab tm 5=.str p->ab tm 6=.str q->ab tm 7=.bool (decide (k<t.length))->ab tm 8=.bool FP->
    D P L (.seq (aX gL.body) (.seq (aX (aA gL.body)) (.seq (aX (aA (aA gL.body))) (aX (aA (aA (aA gL.body))))))) ⟨[(0,.str s)],[],0,0⟩=Ix (.normal,⟨tm,[],0,0⟩)->ah P L 86 [.str s] _:=fun tm t5 t6 t7 t8 e=>by
   have⟨tm',e',f5,f6,f7,f8⟩:=mid tm t5 t6 t7 t8;unfold ah;rw[aB h.h86];show fp [.t 2] (D P L (.seq (aX gL.body) (.seq (aX (aA gL.body)) (.seq (aX (aA (aA gL.body))) (.seq (aX (aA (aA (aA gL.body)))) (.seq (aX (aA (aA (aA (aA gL.body))))) (aA (aA (aA (aA (aA gL.body)))))))))) ⟨[(0,.str s)],[],0,0⟩)=_
   rw[asP,e,il,nv,e',il];exact tail tm' f5 f6 f7 f8
  unfold ah at e2
  cases hd:eh p with
  | false=>
   rw[hd] at e2 B4;rw[xI] at B4;subst B4;refine fin _ ?_ ?_ ?_ ?_ (by simp only[go_sem,ya,gL,aX,aA,e0,e1,e2]<;>rfl)<;>simp only[go_sem,ya]
  | true=>
   rw[hd] at e2 B4
   cases neg with
   | false=>
    simp only[yQ,yar] at B4;subst B4;refine fin _ ?_ ?_ ?_ ?_ (by simp only[go_sem,ya,gL,aX,aA,e0,e1,e2,yQ]<;>rfl)<;>simp only[go_sem,ya]
   | true=>
    simp only[yM,vS] at B4;subst B4;refine fin _ ?_ ?_ ?_ ?_ (by simp only[go_sem,ya,gL,aX,aA,e0,e1,e2,yM,CL]<;>rfl)<;>simp only[go_sem,ya]
 unfold aM;have e0:=aED h s
 cases s with
 | nil=>exact key ycP [] (by simp) e0
 | cons b r=>
  by_cases hb:b=45
  .subst hb;exact key ycO r (by simp at hl;lia) e0
  .simp only [hb,xr];rw[yx (by simpa using hb)] at e0;exact key ycP (b::r) hl e0
end
section
variable {v:AV}{z:Int}{K:Nat}
def LN(z:Int):Bool:=decide (600<(ay z.natAbs).length)
def LG(r:Rat):Bool:=LN r.num||LN (r.den:Int)
def Xy{m B k:Nat}(hB:B<=3*k)(hk:0<k)(h:m<2^B):(ay m).length<=k:=by
 obtain⟨j,rfl⟩:∃j,k=j+1:=⟨k-1,by lia⟩;refine Bu (yT h (xB (y9 (by decide) hB) ?_));rw[yaj];exact vR (by decide) _
def Y1:∀f n:Nat,fc f n<=f
 | 0,_=>ym _
 | f+1,n=>by
  unfold fc
  cases yG n 0 with
  | true=>exact Nat.zero_le _
  | false=>have:=Y1 f (n/2);simp only[y5];lia
def aAo{P:aJ}{L:Lib}{f:cG}(h:L.pure 175=Ix Nx){x:Nat}(hx:x<2^64):bM P L f 175 [uc x]=Ix (aa (fc 64 x:Nat)):=by
 rw[lI h];show (bif yU x (2^64) then _ else none)=_
 rw[nA hx];rfl
def axm{n top low:Nat}(hn:0<n)(h0:0<top)(ht:top<2^64)(hV:V=low+(2^64)^(n-1)*top)(hl:low<(2^64)^(n-1)):V<2^(64*(n-1)+fc 64 top):=by
 have⟨l1,l2,l3⟩:=Yt h0 ht;have hle:=Y1 64 top;have h1:top<2^fc 64 top:=by
  have e:(2^64:Nat)=2^fc 64 top*2^(64-fc 64 top):=by rw[<-wP,show fc 64 top+(64-fc 64 top)=64 by lia]
  rw[e] at l3;exact Nat.lt_of_mul_lt_mul_right l3
 have h3:=yZ ((2^64)^(n-1)) (show top+1<=2^fc 64 top from h1);rw[wP,yaj]
 grind
def au3(K:Nat):2^K<=(2^64)^(K/64+1):=by
 rw[show (2^64:Nat)=2^64 from rfl,<-yaj];exact y9 (by decide) (by lia)
def aCm(h:Tx P L)(hv:cM v z)(hz:Bd K z)(hK:K<=4000000000):∃B:Nat,ah P L 172 [v] (aa B)/\z.natAbs<2^B/\B<=K+64:=by
 obtain⟨s,w,rfl,hn⟩:=hv;have⟨l,u⟩:=hn.aH;have⟨r,e1,hr⟩:=Dj h.toNu hn;have⟨ws,hw,g,nz',hb⟩:=hr;have hl:ws.length<=K/64+1:=sJ nz' hb (yT hz (au3 K));unfold ah at e1 ⊢;by_cases h0:ws=[]
 .subst h0;have pG:z.natAbs=0:=by rw[<-hb];rfl
  refine⟨0,?_,by rw[pG];decide,by lia⟩
  rw[aB h.amB];simp only[go_sem,ya,yb,UH,aG,cF,a7,u.pu,u.af,u.one,e1,hw.len,yI,show ((0:Nat):Int)=0 from rfl,yo]
 .have hp:0<ws.length:=uZ.2 h0;have EL:=R3 nz' h0;have H5:=jr (show 0<2^64 by decide) g (ws.length-1);have ei:=hw.aT (i:=ws.length-1) (by lia);have dW:=lP (b:=2^64) (l:=ws) (ws.length-1);have Pm:=qd (Eh g (ws.length-1));rw[yJ,xq (by lia)] at Pm;rw[show ws.length-1+1=ws.length by lia,yq (ym _)] at dW;generalize ws.getD (ws.length-1) 0=top at*
  have e2:=aAo (P:=P) (f:=D P L) h.aEt H5;have hle:=Y1 64 top;have alb:=axm hp (Nat.pos_of_ne_zero EL) H5 dW Pm;rw[hb] at alb;refine⟨64*(ws.length-1)+fc 64 top,?_,alb,by lia⟩;rw[aB h.amB]
  simp only[go_sem,ya,yb,UH,aG,cF,a7,u.pu,u.af,u.one,e1,hw.len,show ¬(ws.length:Int)=0 by lia,show (ws.length:Int)-1=((ws.length-1:Nat):Int) by lia,wrapN (n:=ws.length-1) (by lia),show (64:Int)*((ws.length-1:Nat):Int)=((64*(ws.length-1):Nat):Int) by lia,wrapN (n:=64*(ws.length-1)) (by lia),ei,e2,show ((64*(ws.length-1):Nat):Int)+((fc 64 top:Nat):Int)=((64*(ws.length-1)+fc 64 top:Nat):Int) from rfl,wrapN (n:=64*(ws.length-1)+fc 64 top) (by lia)]
def aEH(h:Tx P L)(hv:cM v z)(hz:Bd K z)(hK:K<=4000000000):∃B:Nat,ah P L 172 [v] (aa B)/\z.natAbs<2^B/\B<=300000000000:=by
 have⟨B,h1,h2,h3⟩:=aCm h hv hz hK;exact⟨B,h1,h2,by lia⟩
def asQ(z:Int):(if jb [45] (aU z)=ycO then (aU z).drop 1 else aU z)=ay z.natAbs:=by
 by_cases h:z<0
 .rw [mZ h];rfl
 .obtain ⟨m,rfl⟩:∃m:Nat,z=m:=⟨z.toNat,by lia⟩;rw[nS];have⟨b,r,hb,h1,_⟩:=IP m;rw[wA,hb,XY h1];rfl
def amI(h:Tx P L)(hv:cM v z)(hz:Bd K z)(hK:K<=4000000000):ah P L 151 [v] (.bool (LN z)):=by
 have⟨B,e1,hB,hBb⟩:=aEH h hv hz hK;have e2:=m99 h hv hz hK;obtain⟨s,w,rfl,hn⟩:=hv;have⟨l,u⟩:=hn.aH;have e3:bM P L (D P L) 153 [.str (aU z),.str [45]]=Ix (.str (ay z.natAbs)):=by
  rw[lI h.abw,<-asQ];show Ix (AV.str (bif jb [45] (aU z) then (aU z).drop 1 else aU z))=_
  cases jb [45] (aU z)<;>rfl
 unfold ah at e1 e2 ⊢;rw[aB h.aEu];unfold LN;by_cases h1:1800<B
 .simp only [go_sem,ya,yb,UC,aG,cF,a7,u.pu,u.af,u.one,e1,show (1800:Int)<(B:Int) by lia,yo,e2,e3];by_cases h2:600<(ay z.natAbs).length
  .rw [xG h2,xG (by lia)]
  .rw [xn h2,xn (by lia)]
 .have h2:=Xy (k:=600) (by lia) (by decide) hB;rw[xn (by lia)];simp only[go_sem,ya,yb,UC,aG,cF,a7,u.pu,u.af,u.one,e1,show ¬(1800:Int)<(B:Int) by lia,yp]
def aEI(h:Tx P L){a:Rat}(hv:bE v a)(ka:Hq K a)(hK:K<=4000000000):ah P L 107 [v] (.bool (LG a)):=by
 obtain⟨s1,w1,s2,w2,rfl,h1,h2⟩:=hv;have e1:=amI h ⟨s1,w1,rfl,h1⟩ ka.1 hK;have e2:=amI h ⟨s2,w2,rfl,h2⟩ ka.2 hK;have⟨l1,u1⟩:=h1.aH;have⟨l2,u2⟩:=h2.aH;unfold ah at e1 e2 ⊢;rw[aB h.aEv];unfold LG
 cases hb:LN a.num with
 | true=>
  rw[hb] at e1;simp only[go_sem,ya,yb,Uv,aG,aZ,yd,cF,a7,u1.pu,u1.af,u1.one,u2.pu,u2.one,e1];rfl
 | false=>
  rw[hb] at e1;simp only[go_sem,ya,yb,Uv,aG,aZ,yd,show xK 2 [aa s1,w1,aa s2,w2]=[aa s2,w2] from rfl,cF,a7,u1.pu,u1.af,u1.one,u2.pu,u2.af,u2.one,e1,e2];rfl
end
def asR(p s:Nat):p*(s%1000000000)+p*1000000000*(s/1000000000)=p*s:=by
 rw[xD,<-xO,uy]
def M5{l:List Int}{i:Nat}(h:l.length<=i):l.getD i 0=0:=by simp_all
def au4{b:List Int}{i c:Nat}{y:Int}(hx:x=a.getD i 0)(hy:y=b.getD i 0)(h1:0<=x)(h2:0<=y)(hl:out.length=i)(hv:dv out+1000000000^i*c=dv (a.take i)+dv (b.take i)):
  dv (out++[(((x.toNat+y.toNat+c)%1000000000:Nat):Int)])+1000000000^(i+1)*((x.toNat+y.toNat+c)/1000000000)=dv (a.take (i+1))+dv (b.take (i+1)):=by
 rw[zD,zD,pM,hl,<-hx,<-hy];simp only[dv,xx,xP,xg,xJ]
 have:=asR (1000000000^i) (x.toNat+y.toNat+c)
 grind
def aAp(rG:Has P L 302 BX){w:AV}{b:List Int}(hv:bl v a)(hw:bl w b)(ha:dg a)(hb:dg b)(la:a.length<=N)(lb:b.length<=N)(lN:N<=20000000000):
  cL P L [0,1,5,6,7] zK (fun k s=>∃(i c:Nat) (out:List Int),2*(N-i)+c=k/\out.length=i/\c<=1/\dg out/\dv out+1000000000^i*c=dv (a.take i)+dv (b.take i)/\i<=N+1/\(i<=N\/c=0)/\
    ((i=0/\s=⟨[(0,v),(1,w),(5,.ae),(6,aa c),(7,aa i)],[],0,0⟩)\/
    (0<i/\s=⟨[(0,v),(1,w),(5,.av 0 0 i),(6,aa c),(7,aa i)],[(0,.cells ycO ycO ycP 1 (out.map aa))],1,0⟩))) (fun ex s'=>∃tm out,ex=.exit 0/\dg out/\dv out=dv a+dv b/\out.length<=N+1/\((out=[]/\ab tm 5=.ae/\s'=⟨tm,[],0,0⟩)\/(0<out.length/\ab tm 5=.av 0 0 out.length/\s'=⟨tm,[(0,.cells ycO ycO ycP 1 (out.map aa))],1,0⟩))):=by
 apply cP;rintro k s ⟨i,c,out,hk,hlen,hc,oM,aR,hi,Fv,hs⟩;have e1:=abf rG hv i;have e2:=abf rG hw i;unfold ah at e1 e2;have ga:=jM ha i;have gb:=jM hb i;by_cases sU:i<a.length\/i<b.length\/0<c
 .left
  obtain⟨x,hx⟩:∃x,x=a.getD i 0:=⟨_,rfl⟩;obtain⟨y,hy⟩:∃y,y=b.getD i 0:=⟨_,rfl⟩;rw[<-hx] at e1 ga;rw[<-hy] at e2 gb;have oh:=au4 (c:=c) hx hy ga.1 gb.1 hlen aR;obtain⟨s0,qF⟩:∃s0,s0=x.toNat+y.toNat+c:=⟨_,rfl⟩;rw[<-qF] at oh;have Ff:x+y+(c:Int)=(s0:Int):=by lia
  have hs9:s0<2000000000:=by lia
  have hr:((s0:Nat):Int).tmod 1000000000=((s0%1000000000:Nat):Int):=by rw[xF (by lia)];rfl
  have hq:((s0:Nat):Int).tdiv 1000000000=((s0/1000000000:Nat):Int):=by rw[xR (by lia)];rfl
  have iy:s0/1000000000<=1:=by lia
  have aCn:2*(N-(i+1))+s0/1000000000<k:=by
   by_cases hm:i<N
   .lia
   .have:c=1:=by lia
    have DN:x=0:=by rw[hx];exact M5 (by lia)
    have mR:y=0:=by rw[hy];exact M5 (by lia)
    subst DN;subst mR
    have:s0=1:=by rw[qF,this];rfl
    subst this
    lia
  have AS:dg (out++[((s0%1000000000:Nat):Int)]):=jo.2 ⟨oM,nY.2 (by lia)⟩;have aah:(out++[((s0%1000000000:Nat):Int)]).length=i+1:=by simp[hlen]
  have aEJ:i+1<=N\/s0/1000000000=0:=by
   by_cases hm:i<N
   .exact .inl hm
   .right
    have:c=1:=by lia
    have DN:x=0:=by rw[hx];exact M5 (by lia)
    have mR:y=0:=by rw[hy];exact M5 (by lia)
    subst DN;subst mR
    have:s0=1:=by rw[qF,this];rfl
    subst this;rfl
  have fin:∃s',D P L zK s=Ix (.normal,s')/\bW [0,1,5,6,7] s'=⟨[(0,v),(1,w),(5,.av 0 0 (i+1)),(6,aa (s0/1000000000:Nat)),(7,aa (i+1:Nat))],[(0,.cells ycO ycO ycP 1 ((out++[((s0%1000000000:Nat):Int)]).map aa))],1,0⟩:=by
   have three:((i:Int)<a.length)\/(¬(i:Int)<a.length/\(i:Int)<b.length)\/(¬(i:Int)<a.length/\¬(i:Int)<b.length/\(0:Int)<c):=by lia
   rcases three with t1 | ⟨t1,t2⟩ | ⟨t1,t2,t3⟩
   .rcases hs with ⟨h0,rfl⟩ | ⟨h0,rfl⟩
    .subst h0;have lh:out=[]:=yu hlen;subst lh
     simp only[go_sem,ya,yb,yV,yA,yi,yf,zK,hv.len,hv.af,hw.af,t1,e1,e2,wrap64 (n:=x+y) (by lia) (by lia),Ff,wrap64 (n:=(s0:Int)) (by lia) (by lia),iD _ _ _ (show (1000000000:Int)≠0 by decide),gN _ _ _ (show (1000000000:Int)≠0 by decide),hr,hq,wrap64 (n:=((s0/1000000000:Nat):Int)) (by lia) (by lia),eT];refine⟨_,rfl,?_⟩;rw[wrap64 (by lia) (by lia)];simp only[go_sem,ya,yb,ao,aj hv.pu,aj hw.pu]<;>rfl
    .simp only [go_sem,ya,yb,yi,yf,zK,hv.len,hv.af,hw.af,t1,e1,e2,wrap64 (n:=x+y) (by lia) (by lia),Ff,wrap64 (n:=(s0:Int)) (by lia) (by lia),iD _ _ _ (show (1000000000:Int)≠0 by decide),hr]
     rw[dZ (ex:=ycP) (pu:=ycO) (cs:=out.map aa) rfl (by rw[yg,hlen,yf]) (by lia) (by lia) (by decide) rfl]
     simp only[go_sem,ya,yb,gN _ _ _ (show (1000000000:Int)≠0 by decide),hq,wrap64 (n:=((s0/1000000000:Nat):Int)) (by lia) (by lia)];refine⟨_,rfl,?_⟩;rw[wrap64 (by lia) (by lia),yX];simp only[go_sem,ya,yb,ao,aj hv.pu,aj hw.pu]<;>rfl
   .rcases hs with ⟨h0,rfl⟩ | ⟨h0,rfl⟩
    .subst h0;have lh:out=[]:=yu hlen;subst lh
     simp only[go_sem,ya,yb,yV,yA,yi,yf,zK,hv.len,hv.af,hw.len,hw.af,t1,t2,e1,e2,wrap64 (n:=x+y) (by lia) (by lia),Ff,wrap64 (n:=(s0:Int)) (by lia) (by lia),iD _ _ _ (show (1000000000:Int)≠0 by decide),gN _ _ _ (show (1000000000:Int)≠0 by decide),hr,hq,wrap64 (n:=((s0/1000000000:Nat):Int)) (by lia) (by lia),eT];refine⟨_,rfl,?_⟩;rw[wrap64 (by lia) (by lia)];simp only[go_sem,ya,yb,ao,aj hv.pu,aj hw.pu]<;>rfl
    .simp only [go_sem,ya,yb,yi,yf,zK,hv.len,hv.af,hw.len,hw.af,t1,t2,e1,e2,wrap64 (n:=x+y) (by lia) (by lia),Ff,wrap64 (n:=(s0:Int)) (by lia) (by lia),iD _ _ _ (show (1000000000:Int)≠0 by decide),hr]
     rw[dZ (ex:=ycP) (pu:=ycO) (cs:=out.map aa) rfl (by rw[yg,hlen,yf]) (by lia) (by lia) (by decide) rfl]
     simp only[go_sem,ya,yb,gN _ _ _ (show (1000000000:Int)≠0 by decide),hq,wrap64 (n:=((s0/1000000000:Nat):Int)) (by lia) (by lia)];refine⟨_,rfl,?_⟩;rw[wrap64 (by lia) (by lia),yX];simp only[go_sem,ya,yb,ao,aj hv.pu,aj hw.pu]<;>rfl
   .rcases hs with ⟨h0,rfl⟩ | ⟨h0,rfl⟩
    .subst h0;have lh:out=[]:=yu hlen;subst lh
     simp only[go_sem,ya,yb,yV,yA,yi,yf,zK,hv.len,hv.af,hw.len,hw.af,t1,t2,t3,e1,e2,wrap64 (n:=x+y) (by lia) (by lia),Ff,wrap64 (n:=(s0:Int)) (by lia) (by lia),iD _ _ _ (show (1000000000:Int)≠0 by decide),gN _ _ _ (show (1000000000:Int)≠0 by decide),hr,hq,wrap64 (n:=((s0/1000000000:Nat):Int)) (by lia) (by lia),eT];refine⟨_,rfl,?_⟩;rw[wrap64 (by lia) (by lia)];simp only[go_sem,ya,yb,ao,aj hv.pu,aj hw.pu]<;>rfl
    .simp only [go_sem,ya,yb,yi,yf,zK,hv.len,hv.af,hw.len,hw.af,t1,t2,t3,e1,e2,wrap64 (n:=x+y) (by lia) (by lia),Ff,wrap64 (n:=(s0:Int)) (by lia) (by lia),iD _ _ _ (show (1000000000:Int)≠0 by decide),hr]
     rw[dZ (ex:=ycP) (pu:=ycO) (cs:=out.map aa) rfl (by rw[yg,hlen,yf]) (by lia) (by lia) (by decide) rfl]
     simp only[go_sem,ya,yb,gN _ _ _ (show (1000000000:Int)≠0 by decide),hq,wrap64 (n:=((s0/1000000000:Nat):Int)) (by lia) (by lia)];refine⟨_,rfl,?_⟩;rw[wrap64 (by lia) (by lia),yX];simp only[go_sem,ya,yb,ao,aj hv.pu,aj hw.pu]<;>rfl
  have⟨s',f1,f2⟩:=fin;exact⟨s',_,f1,aCn,i+1,s0/1000000000,_,rfl,aah,iy,AS,oh,by lia,aEJ,.inr ⟨by lia,f2⟩⟩
 .right
  have oG:c=0:=by lia
  subst oG;rw[xP,xg,yq (by lia),yq (by lia)] at aR;rcases hs with ⟨h0,rfl⟩ | ⟨h0,rfl⟩
  .simp only [go_sem,ya,zK,hv.len,hw.len,show ¬(i:Int)<a.length by lia,show ¬(i:Int)<b.length by lia,show ¬(0:Int)<((0:Nat):Int) by lia];exact⟨_,_,rfl,by simp,_,out,rfl,oM,aR,by lia,.inl ⟨yu (by lia),rfl,rfl⟩⟩
  .simp only [go_sem,ya,zK,hv.len,hw.len,show ¬(i:Int)<a.length by lia,show ¬(i:Int)<b.length by lia,show ¬(0:Int)<((0:Nat):Int) by lia];exact⟨_,_,rfl,by simp,_,out,rfl,oM,aR,by lia,.inr ⟨by lia,by rw[hlen];simp only[go_sem,ya],rfl⟩⟩
def aEK(h:Has P L 295 OX)(rG:Has P L 302 BX){w:AV}{b:List Int}(hv:bl v a)(hw:bl w b)(ha:dg a)(hb:dg b)(la:a.length<=20000000000)(lb:b.length<=20000000000):
  ∃r out,ah P L 295 [v,w] r/\bl (shut r) out/\dg out/\dv out=dv a+dv b/\out.length<=max a.length b.length+1:=by
 have lf:∃out,ah P L 295 [v,w] (if out=[] then .ae else .bR ycP 1 out.length (out.map aa))/\dg out/\dv out=dv a+dv b/\out.length<=max a.length b.length+1:=by
  unfold ah;rw[aB h];simp only[go_sem,OX];generalize hq:D P L (.loop _ zK) _=q;obtain⟨ex,s,rfl,tm,out,rfl,hd,aR,hl,hs⟩:=bg hq (aAp (P:=P) (L:=L) rG hv hw ha hb (N:=max a.length b.length) (by lia) (by lia) (by lia) (2*(max a.length b.length))) ⟨0,0,[],by lia,rfl,by lia,rfl,by simp[dv],by lia,.inr rfl,.inl ⟨rfl,by simp only[go_sem,ya,ao,aj hv.pu,aj hw.pu]<;>rfl⟩⟩
  refine⟨out,?_,hd,aR,hl⟩;rcases hs with ⟨h0,h5,rfl⟩ | ⟨h0,h5,rfl⟩
  .rw [yK h0];simp only[go_sem,ao,h5]
  .rw [yx (by intro e;subst e;simp at h0)];simp only[go_sem,yb,ao,h5];exact mW (fq _ _ _) (by simp) (by decide)
 have⟨out,g1,g2,g3,g4⟩:=lf;refine⟨_,out,g1,?_,g2,g3,g4⟩
 split
 .rename_i e;subst e;exact mY
 .exact fZ ycP out
def abJ(h:Has P L 296 BW){w:AV}{b:List Int}(hv:bl v a)(hw:bl w b)(ha:dg a)(hb:dg b)(na:nz a)(nb:nz b)(la:a.length<=20000000000)(lb:b.length<=20000000000):
  ah P L 296 [v,w] (aa (eL (dv a) (dv b))):=by
 unfold ah;rw[aB h];by_cases hlen:a.length=b.length
 .have key:=dT P L [0,1,5] GH
   (fun k st=>∃j:Nat,st=⟨[(0,v),(1,w),(5,aa ((j:Int)-1))],[],0,0⟩/\j<=a.length/\j=k/\a.drop j=b.drop j)
   (fun ex st=>∃tm ct,st=⟨tm,[],ct,0⟩/\((ex=.ret/\ab tm 4=aa (eL (dv a) (dv b)))\/(ex=.exit 0/\a=b))) ?_
  .simp only [go_sem,ya,BW,hv.len,hw.len,show (a.length:Int)=b.length by lia];generalize hq:D P L (.loop _ GH) _=q;obtain⟨ex,st,rfl,tm,ct,rfl,h2⟩:=bg hq (key a.length) ⟨a.length,by
    rw[wrap64 (by lia) (by lia)];rw[hlen]
    simp only[go_sem,ya,ao,aj hv.pu,aj hw.pu]<;>rfl,ym _,rfl,by rw[yY (ym _),yY (by lia)]⟩
   rcases h2 with ⟨rfl,h2⟩ | ⟨rfl,h2⟩
   .simp only [go_sem,h2]
   .simp only [go_sem,ao];subst h2;simp[eL]
  .rintro k st ⟨j,rfl,hj,rfl,he⟩
   cases j with
   | zero=>
    right
    simp only[go_sem,ya,GH,show ¬(0:Int)<=((0:Nat):Int)-1 by lia];exact⟨_,_,rfl,by simp,_,_,rfl,.inr ⟨rfl,by simpa using he⟩⟩
   | succ i=>
    have h1:i<a.length:=by lia
    have h2:i<b.length:=by lia
    have KL:=air ha hb h1 h2 he;have aY:=air hb ha h2 h1 he.symm;by_cases c1:a[i]<b[i]
    .right
     simp only[go_sem,ya,GH,show ((i+1:Nat):Int)-1=(i:Int) by lia,show (0:Int)<=(i:Int) by lia,hv.aT h1,hw.aT h2,c1];refine⟨_,_,rfl,by simp,_,_,rfl,.inl ⟨rfl,?_⟩⟩;simp only[go_sem];unfold eL;rw[yK (KL c1)]
    .by_cases c2:b[i]<a[i]
     .right
      simp only[go_sem,ya,GH,show ((i+1:Nat):Int)-1=(i:Int) by lia,show (0:Int)<=(i:Int) by lia,hv.aT h1,hw.aT h2,c1,c2];refine⟨_,_,rfl,by simp,_,_,rfl,.inl ⟨rfl,?_⟩⟩;simp only[go_sem];unfold eL;rw[yx (by lia),yK (by lia)]
     .left
      simp only[go_sem,ya,GH,show ((i+1:Nat):Int)-1=(i:Int) by lia,show (0:Int)<=(i:Int) by lia,hv.aT h1,hw.aT h2,c1,c2];refine⟨_,i,rfl,by lia,i,?_,by lia,rfl,?_⟩
      .rw [wrap64 (by lia) (by lia)];simp only[go_sem,ya,ao,aj hv.pu,aj hw.pu]<;>rfl
      .rw [yP h1,yP h2,he,show a[i]=b[i] by lia]
 .by_cases c1:a.length<b.length
  .have:=Zr ha nb hb c1
   simp only[go_sem,ya,BW,hv.len,hw.len,show ¬(a.length:Int)=b.length by lia,show (a.length:Int)<b.length by lia];unfold eL;rw[yK this]
  .have:=Zr hb na ha (show b.length<a.length by lia)
   simp only[go_sem,ya,BW,hv.len,hw.len,show ¬(a.length:Int)=b.length by lia,show ¬(a.length:Int)<b.length by lia];unfold eL;rw[yx (by lia),yK this]
def au5{b:List Int}{i c:Nat}{y z:Int}{c':Nat}(hx:x=a.getD i 0)(hy:y=b.getD i 0)(h1:0<=x)(h2:0<=y)(h3:0<=z)(hz:z=x-y-c+1000000000*c')(hl:out.length=i)(hv:dv out+dv (b.take i)=dv (a.take i)+1000000000^i*c):
  dv (out++[z])+dv (b.take (i+1))=dv (a.take (i+1))+1000000000^(i+1)*c':=by
 rw[zD,zD,pM,hl,<-hx,<-hy];simp only[dv,xP,xg,xJ];have e:z.toNat+y.toNat+c=x.toNat+1000000000*c':=by lia
 grind
def aAq(rG:Has P L 302 BX){w:AV}{b:List Int}(hv:bl v a)(hw:bl w b)(ha:dg a)(hb:dg b)(la:a.length<=20000000000)(hle:dv b<=dv a)(Ii:b.length<=a.length):
  cL P L [0,1,5,6,7] BE (fun k s=>∃(i c:Nat) (out:List Int),i+k=a.length/\out.length=i/\c<=1/\dg out/\dv out+dv (b.take i)=dv (a.take i)+1000000000^i*c/\
    ((i=0/\s=⟨[(0,v),(1,w),(5,.ae),(6,aa c),(7,aa i)],[],0,0⟩)\/
    (0<i/\s=⟨[(0,v),(1,w),(5,.av 0 0 i),(6,aa c),(7,aa i)],[(0,.cells ycO ycO ycP 1 (out.map aa))],1,0⟩))) (fun ex s'=>∃tm out,ex=.exit 0/\dg out/\dv out+dv b=dv a/\out.length<=20000000000/\((out=[]/\ab tm 5=.ae/\s'=⟨tm,[],0,0⟩)\/(0<out.length/\ab tm 5=.av 0 0 out.length/\s'=⟨tm,[(0,.cells ycO ycO ycP 1 (out.map aa))],1,0⟩))):=by
 apply cP;rintro k s ⟨i,c,out,hk,hlen,hc,oM,aR,hs⟩;have e2:=abf rG hw i;unfold ah at e2;have ga:=jM ha i;have gb:=jM hb i;by_cases sU:i<a.length
 .left
  obtain⟨x,hx⟩:∃x,x=a.getD i 0:=⟨_,rfl⟩;obtain⟨y,hy⟩:∃y,y=b.getD i 0:=⟨_,rfl⟩;have zd:a[i]=x:=by rw[hx];simp[yW,xz sU]
  have e1:=hv.aT sU;rw[zd] at e1;rw[<-hx] at ga;rw[<-hy] at e2 gb;obtain⟨z,c',hz,iy,pG,kF,C6⟩:∃(z:Int) (c':Nat),z=x-y-c+1000000000*c'/\c'<=1/\0<=z/\z<1000000000/\((x-y-c<0/\c'=1)\/(¬x-y-c<0/\c'=0)):=by
   by_cases h:x-y-c<0
   .exact ⟨x-y-c+1000000000,1,by lia,by lia,by lia,by lia,.inl ⟨h,rfl⟩⟩
   .exact ⟨x-y-c,0,by lia,by lia,by lia,by lia,.inr ⟨h,rfl⟩⟩
  have oh:=au5 hx hy ga.1 gb.1 pG hz hlen aR;have AS:dg (out++[z]):=jo.2 ⟨oM,nY.2 ⟨pG,kF⟩⟩;have aah:(out++[z]).length=i+1:=by simp[hlen]
  have fin:∃s',D P L BE s=Ix (.normal,s')/\bW [0,1,5,6,7] s'=⟨[(0,v),(1,w),(5,.av 0 0 (i+1)),(6,aa c'),(7,aa (i+1:Nat))],[(0,.cells ycO ycO ycP 1 ((out++[z]).map aa))],1,0⟩:=by
   rcases C6 with ⟨ic,rfl⟩ | ⟨ic,rfl⟩
   .have dj:x-y-c+1000000000=z:=by lia
    rcases hs with ⟨h0,rfl⟩ | ⟨h0,rfl⟩
    .subst h0;have lh:out=[]:=yu hlen;subst lh
     simp only[go_sem,ya,yb,yV,yA,yi,yf,BE,hv.len,hw.af,show ((0:Nat):Int)<a.length by lia,e1,e2,wrap64 (n:=x-y) (by lia) (by lia),wrap64 (n:=x-y-(c:Int)) (by lia) (by lia),ic,dj,wrap64 (n:=z) (by lia) (by lia),eT];refine⟨_,rfl,?_⟩;rw[wrap64 (by lia) (by lia)];simp only[go_sem,ya,yb,ao,aj hv.pu,aj hw.pu]<;>rfl
    .simp only [go_sem,ya,yb,yi,yf,BE,hv.len,hw.af,show (i:Int)<a.length by lia,e1,e2,wrap64 (n:=x-y) (by lia) (by lia),wrap64 (n:=x-y-(c:Int)) (by lia) (by lia),ic,dj,wrap64 (n:=z) (by lia) (by lia)]
     rw[dZ (ex:=ycP) (pu:=ycO) (cs:=out.map aa) rfl (by rw[yg,hlen,yf]) (by lia) (by lia) (by decide) rfl];simp only[go_sem,ya,yb];refine⟨_,rfl,?_⟩;rw[wrap64 (by lia) (by lia),yX];simp only[go_sem,ya,yb,ao,aj hv.pu,aj hw.pu]<;>rfl
   .have dj:x-y-c=z:=by lia
    have ic:¬z<0:=by lia
    rcases hs with ⟨h0,rfl⟩ | ⟨h0,rfl⟩
    .subst h0;have lh:out=[]:=yu hlen;subst lh
     simp only[go_sem,ya,yb,yV,yA,yi,yf,BE,hv.len,hw.af,show ((0:Nat):Int)<a.length by lia,e1,e2,wrap64 (n:=x-y) (by lia) (by lia),dj,wrap64 (n:=z) (by lia) (by lia),ic,eT];refine⟨_,rfl,?_⟩;rw[wrap64 (by lia) (by lia)];simp only[go_sem,ya,yb,ao,aj hv.pu,aj hw.pu]<;>rfl
    .simp only [go_sem,ya,yb,yi,yf,BE,hv.len,hw.af,show (i:Int)<a.length by lia,e1,e2,wrap64 (n:=x-y) (by lia) (by lia),dj,wrap64 (n:=z) (by lia) (by lia),ic]
     rw[dZ (ex:=ycP) (pu:=ycO) (cs:=out.map aa) rfl (by rw[yg,hlen,yf]) (by lia) (by lia) (by decide) rfl];simp only[go_sem,ya,yb];refine⟨_,rfl,?_⟩;rw[wrap64 (by lia) (by lia),yX];simp only[go_sem,ya,yb,ao,aj hv.pu,aj hw.pu]<;>rfl
  have⟨s',f1,f2⟩:=fin;exact⟨s',k-1,f1,by lia,i+1,c',_,by lia,aah,iy,AS,oh,.inr ⟨by lia,f2⟩⟩
 .right
  have alc:dv out+dv b=dv a:=by
   rw[yq (by lia),yq (by lia)] at aR;have aY:=mK oM;rw[hlen] at aY;rcases (show c=0\/c=1 by lia) with rfl | rfl
   .lia
   .lia
  rcases hs with ⟨h0,rfl⟩ | ⟨h0,rfl⟩
  .simp only [go_sem,ya,BE,hv.len,show ¬(i:Int)<a.length by lia];exact⟨_,_,rfl,by simp,_,out,rfl,oM,alc,by lia,.inl ⟨yu (by lia),rfl,rfl⟩⟩
  .simp only [go_sem,ya,BE,hv.len,show ¬(i:Int)<a.length by lia];exact⟨_,_,rfl,by simp,_,out,rfl,oM,alc,by lia,.inr ⟨by lia,by rw[hlen];simp only[go_sem,ya],rfl⟩⟩
def amJ(h:Has P L 297 OY)(rG:Has P L 302 BX)(db:Has P L 300 pk){w:AV}{b:List Int}(hv:bl v a)(hw:bl w b)(ha:dg a)(hb:dg b)(na:nz a)(nb:nz b)(la:a.length<=20000000000)(hle:dv b<=dv a):
  ∃r out,ah P L 297 [v,w] r/\bl r out/\shut r=r/\dg out/\nz out/\dv out+dv b=dv a:=by
 have Ii:b.length<=a.length:=by
  by_cases h:a.length<b.length
  .have:=Zr ha nb hb h;lia
  .lia
 unfold ah;rw[aB h];simp only[go_sem,OY];generalize hq:D P L (.loop _ BE) _=q;obtain⟨ex,s,rfl,tm,out,rfl,hd,aR,hl,hs⟩:=bg hq (aAq (P:=P) (L:=L) rG hv hw ha hb la hle Ii a.length) ⟨0,0,[],by lia,rfl,by lia,rfl,by simp[dv],.inl ⟨rfl,by simp only[go_sem,ya,ao,aj hv.pu,aj hw.pu]<;>rfl⟩⟩
 have kG:=fZ ycP out;rcases hs with ⟨h0,h5,rfl⟩ | ⟨h0,h5,rfl⟩
 .subst h0;have⟨r,e1,hr,jU⟩:=E9 db (v:=.ae) (l:=[]) mY (by simp);refine⟨r,eZ [],?_,hr,jU,rfl,rfl,by rw[CC];exact aR⟩
  simp only[go_sem,ao,h5,e1,jU,hr.eG]
 .have ⟨r,e1,hr,jU⟩:=E9 db kG hl;refine⟨r,eZ out,?_,hr,jU,D9 hd,IZ out,by rw[CC];exact aR⟩
  have iz:∀hp:Hp,nG 0 out.length (Ix (ycP,1,out.map aa,hp))=Ix (.aF ycP out.length (out.map aa),hp):=fun hp=>oR ycP (by simp) (by decide)
  simp only[go_sem,yb,ao,h5,iz,e1,jU,hr.eG]
def FQ{id o:Nat}{v:Int}{l:List Int}(h:o<l.length):fN hp ct id o 1 [.int .i64 v] (Ix (.cells ycO ycO ex 1 (l.map aa)))=Ix (.ax [],aV hp id (.cells ycO ycO ex 1 ((l.set o v).map aa)),ct):=by
 rw[mb (by rfl) (by simp;lia) (by rfl)]
 have:over o [AV.int .i64 v] (l.map aa)=(l.set o v).map aa:=by
  simp only[over,yB,yI,yd];rw[ybB,uC,yK (by simpa using h)]
  simp
 rw[this];rfl
def BQ{l:List Int}{o:Nat}(h:o<l.length):xK o (l.map aa)=AV.int .i64 (l.getD o 0)::xK (o+1) (l.map aa):=by
 rw[yP (by simpa using h)]
 grind
def AK{l:List Int}(hv:bl v l){i:Nat}(h:i<l.length):iZ 1 i v=Ix (.aQ (.int .i64 (l.getD i 0)::(l.map aa).drop (i+1))):=by
 rw[hv.aT h]
 grind
def au6{o y c:Int}(ho:0<=o/\o<1000000000)(hx:0<=x/\x<1000000000)(hy:0<=y/\y<1000000000)(hc:0<=c/\c<1000000000):
  (0<=x*y/\x*y<=999999998000000001)/\0<=o+x*y+c/\o+x*y+c<1000000000000000000:=by
 have h1:=tk hx.1 hy.1;have h2:=ybf (show x<=999999999 by lia) (show y<=999999999 by lia) hy.1 (by decide)
 lia
def aAr{w:AV}{b:List Int}(hv:bl v a)(hw:bl w b)(ha:dg a)(hb:dg b)(la:a.length<=20000000000)(lb:b.length<=20000000000){n i:Nat}(hn:n=a.length+b.length)(hi:i<a.length){out0:List Int}:
  cL P L [0,1,5,6,7,8] NQ (fun k s=>∃(j:Nat) (c:Int) (out:List Int),s=⟨[(0,v),(1,w),(5,.av 0 0 n),(6,aa i),(7,aa c),(8,aa j)],[(0,.cells ycO ycO ycO 1 (out.map aa))],1,0⟩/\j+k=b.length/\out.length=n/\dg out/\(0<=c/\c<1000000000)/\
    dv out+1000000000^i*1000000000^j*c.toNat=dv out0+1000000000^i*((a.getD i 0).toNat*dv (b.take j))/\(∀m,i+b.length<=m->out.getD m 0=out0.getD m 0)) (fun ex s'=>∃tm c out,s'=⟨tm,[(0,.cells ycO ycO ycO 1 (out.map aa))],1,0⟩/\ex=.exit 2/\ab tm 0=v/\ab tm 1=w/\ab tm 5=.av 0 0 n/\ab tm 6=aa i/\ab tm 7=aa c/\out.length=n/\dg out/\(0<=c/\c<1000000000)/\
    dv out+1000000000^i*1000000000^b.length*c.toNat=dv out0+1000000000^i*((a.getD i 0).toNat*dv b)/\(∀m,i+b.length<=m->out.getD m 0=out0.getD m 0)):=by
 apply cP;rintro k s ⟨j,c,out,rfl,hk,hlen,hd,hc,aR,iW⟩;by_cases hj:j<b.length
 .left
  obtain⟨x,hx⟩:∃x,x=a.getD i 0:=⟨_,rfl⟩;obtain⟨y,hy⟩:∃y,y=b.getD j 0:=⟨_,rfl⟩;obtain⟨o,ho⟩:∃o,o=out.getD (i+j) 0:=⟨_,rfl⟩;have gx:=jM ha i;have gy:=jM hb j;have rQ:=jM hd (i+j);rw[<-hx] at gx;rw[<-hy] at gy;rw[<-ho] at rQ;have⟨p1,p2,p3⟩:=au6 rQ gx gy hc;obtain⟨t,ht⟩:∃t:Nat,o+x*y+c=t:=⟨(o+x*y+c).toNat,by lia⟩;have hr:((t:Nat):Int).tmod 1000000000=((t%1000000000:Nat):Int):=by rw[xF (by lia)];rfl
  have hq:((t:Nat):Int).tdiv 1000000000=((t/1000000000:Nat):Int):=by rw[xR (by lia)];rfl
  have e1:=AK hv hi;have e2:=AK hw hj;rw[<-hx] at e1;rw[<-hy] at e2;have e3:=BQ (l:=out) (o:=i+j) (by lia);rw[<-ho] at e3;have DE:t=o.toNat+x.toNat*y.toNat+c.toNat:=by
   have:((x.toNat*y.toNat:Nat):Int)=x*y:=by rw[xS,ybg gx.1,ybg gy.1]
   lia
  have aV:=Zs (l:=out) (j:=i+j) (x:=((t%1000000000:Nat):Int)) (by lia);rw[<-ho,xx,wP] at aV;have oh:=atX (Y:=dv (b.take j)) DE aV (by rw[hx];exact aR)
  simp only[go_sem,ya,yf,NQ,hw.len,show (j:Int)<b.length by lia,wrapN (n:=i+j) (by lia),show (i:Int)+(j:Int)=((i+j:Nat):Int) from rfl,b9 0 0 (show i+j<n by lia),yd,e3,e1,e2,wrap64 (n:=x*y) (by lia) (by lia),wrap64 (n:=o+x*y) (by lia) (by lia),ht,wrapN (n:=t) (by lia),iD _ _ _ (show (1000000000:Int)≠0 by decide),gN _ _ _ (show (1000000000:Int)≠0 by decide),hr,hq,wrapN (n:=t/1000000000) (by lia),FQ (l:=out) (o:=i+j) (by lia)];refine⟨_,k-1,rfl,by lia,j+1,((t/1000000000:Nat):Int),out.set (i+j) ((t%1000000000:Nat):Int),?_,by lia,by simp[hlen],S5 hd (by lia),by lia,?_,fun m hm=>?_⟩
  .rw [wrap64 (by lia) (by lia)];simp only[go_sem,ya,yb,ao,aj hv.pu,aj hw.pu]<;>rfl
  .rw [xx,zD,xJ,<-hx,<-hy];exact oh
  .rw [ag9 (by lia)];exact iW m hm
 .right
  have:j=b.length:=by lia
  subst this;rw[xH] at aR;simp only[go_sem,ya,NQ,hw.len,show ¬(b.length:Int)<b.length by lia];exact⟨_,_,rfl,by simp,_,c,out,rfl,rfl,rfl,rfl,rfl,rfl,rfl,hlen,hd,hc,aR,iW⟩
section
variable {v w:AV}{a b:List Int}
def Xz(n:Nat):(ye n [AV.int .i64 0]).flatten=(ye n (0:Int)).map aa:=by simp_all
def axn(b:Bool):O7 ycO (Ix b)=Ix (.bool (!b)):=by cases b<;>rfl
def afy(n m:Nat):(ye n (0:Int)).getD m 0=0:=by grind
def aAs(hv:bl v a)(hw:bl w b)(ha:dg a)(hb:dg b)(la:a.length<=20000000000)(lb:b.length<=20000000000){n:Nat}(hn:n=a.length+b.length):
  cL P L [0,1,5,6] NR (fun k s=>∃(i:Nat) (out:List Int),s=⟨[(0,v),(1,w),(5,.av 0 0 n),(6,aa i)],[(0,.cells ycO ycO ycO 1 (out.map aa))],1,0⟩/\i+k=a.length/\out.length=n/\dg out/\dv out=dv (a.take i)*dv b/\(∀m,i+b.length<=m->out.getD m 0=0)) (fun ex s'=>∃tm out,s'=⟨tm,[(0,.cells ycO ycO ycO 1 (out.map aa))],1,0⟩/\ex=.exit 0/\ab tm 5=.av 0 0 n/\out.length=n/\dg out/\dv out=dv a*dv b):=by
 apply cP;rintro k s ⟨i,out,rfl,hk,hlen,hd,aR,iW⟩;by_cases hi:i<a.length
 .left
  simp only[go_sem,ya,NR,hv.len,show (i:Int)<a.length by lia];generalize hq:D P L (.loop _ NQ) _=q;obtain⟨ex,s,rfl,tm,c,B0,rfl,rfl,t0,t1,t5,t6,t7,aad,iw,hc,aae,Pa⟩:=bg hq (aAr (P:=P) (L:=L) hv hw ha hb la lb hn hi (out0:=out) b.length) ⟨0,0,out,by simp only[go_sem,ya,yb,ao,aj hv.pu,aj hw.pu]<;>rfl,by lia,hlen,hd,by lia,by simp[dv],fun m _=>rfl⟩
  have hz:B0.getD (i+b.length) 0=0:=by rw[Pa _ (ym _),iW _ (ym _)]
  have e3:=BQ (l:=B0) (o:=i+b.length) (by lia);rw[hz] at e3;have aV:=Zs (l:=B0) (j:=i+b.length) (x:=c) (by lia);rw[hz,wP] at aV
  simp only[go_sem,ya,yf,ao,t0,t1,t5,t6,t7,hw.len,aj hv.pu,aj hw.pu,wrapN (n:=i+b.length) (by lia),show (i:Int)+(b.length:Int)=((i+b.length:Nat):Int) from rfl,b9 0 0 (show i+b.length<n by lia),yd,e3,Int.zero_add,wrap64 (n:=c) (by lia) (by lia),FQ (l:=B0) (o:=i+b.length) (by lia)];refine⟨_,k-1,rfl,by lia,i+1,B0.set (i+b.length) c,?_,by lia,by simp[aad],S5 iw hc,?_,fun m hm=>?_⟩
  .rw [wrap64 (by lia) (by lia)];simp only[go_sem,ya,yb,ao,aj hv.pu,aj hw.pu]<;>rfl
  .rw [zD,xU,<-aR,xD];simp only[Int.toNat_zero,xP,xg] at aV;rw[aV];exact aae
  .rw [ag9 (by lia),Pa m (by lia),iW m (by lia)]
 .right
  have:i=a.length:=by lia
  subst this;rw[xH] at aR;simp only[go_sem,ya,NR,hv.len,show ¬(a.length:Int)<a.length by lia];exact⟨_,_,rfl,by simp,_,out,rfl,rfl,rfl,hlen,hd,aR⟩
def abK(h:Has P L 293 EZ)(db:Has P L 300 pk)(hv:bl v a)(hw:bl w b)(ha:dg a)(hb:dg b)(la:a.length<=8000000000)(lb:b.length<=8000000000):
  ∃r out,ah P L 293 [v,w] r/\bl r out/\shut r=r/\dg out/\nz out/\dv out=dv a*dv b:=by
 obtain⟨n,hn⟩:∃n,n=a.length+b.length:=⟨_,rfl⟩;have ck:∀ct:Nat,rE ct 1 8 [.int .i64 0] (Ix n) (Ix n)=Ix (.av ct 0 n,.cells ycO ycO ycO 1 ((ye n (0:Int)).map aa)):=fun ct=>by
  rw[BF (sz:=1) (by lia) (by lia) (by rfl) (by rfl),Xz];rfl
 unfold ah;rw[aB h]
 simp only[go_sem,ya,yb,EZ,hv.len,hw.len,wrapN (n:=n) (by lia),show (a.length:Int)+(b.length:Int)=((a.length+b.length:Nat):Int) from rfl,<-hn,ck];generalize hq:D P L (.loop _ NR) _=q;obtain⟨ex,s,rfl,tm,out,rfl,rfl,t5,hlen,hd,aR⟩:=bg hq (aAs (P:=P) (L:=L) hv hw ha hb (by lia) (by lia) hn a.length) ⟨0,ye n 0,by simp only[go_sem,ya,yb,ao,aj hv.pu,aj hw.pu]<;>rfl,by lia,by simp,ahb n,by rw[aha];simp[dv],fun m _=>afy n m⟩
 have kG:=fZ ycO out;rw[hlen] at kG;have⟨r,e1,hr,jU⟩:=E9 db kG (by lia);refine⟨r,eZ out,?_,hr,jU,D9 hd,IZ out,by rw[CC];exact aR⟩
 have iz:∀hp:Hp,nG 0 n (Ix (ycO,1,out.map aa,hp))=Ix (.aF ycO n (out.map aa),hp):=fun hp=>oR ycO (by simp[hlen]) (by decide)
 simp only[go_sem,yb,ao,t5,iz,e1,jU,hr.eG]
def Pn(h:Has P L 278 UL)(oz:Has P L 293 EZ)(kj:Has P L 294 E0)(db:Has P L 300 pk){n m:Int}(hK:K<=8000000000)(hv:mS v n)(hw:mS w m)(hn:n.natAbs<1000000000^K)(hm:m.natAbs<1000000000^K):
  ∃r,ah P L 278 [v,w] r/\mS r (n*m):=by
 obtain⟨x,a,rfl,hx,ha,na,va⟩:=hv;obtain⟨y,b,rfl,hy,hb,nb,vb⟩:=hw;have la:=xB (lU ha na (by rw[va];exact hn)) hK
 have lb:=xB (lU hb nb (by rw[vb];exact hm)) hK
 have⟨z,out,e1,hz,jU,hd,FJ,aR⟩:=abK oz db hx hy ha hb la lb;have lo:out.length<=20000000000:=by
  refine lU hd FJ ?_;rw[aR];have h1:=mK ha;have h2:=mK hb;have h3:dv a*dv b<1000000000^a.length*1000000000^b.length:=th h1 h2;rw[<-wP] at h3;have hk:∀K,a.length+b.length<=K->dv a*dv b<1000000000^K:=fun K h=>yT h3 (y9 (by decide) h)
  exact hk 20000000000 (by lia)
 have⟨r,e2,hr⟩:=AR kj db (!(decide (n<0)==decide (m<0))) hz hd lo;have e:cJ (!(decide (n<0)==decide (m<0))) (dv out)=n*m:=by
  rw[aR,va,vb];have hnm:((n.natAbs*m.natAbs:Nat):Int)=(n.natAbs:Int)*m.natAbs:=xS _ _;unfold cJ;by_cases h0:n<0<;>by_cases h1:m<0<;>simp only[h0,h1,yo,yp,yaJ,yM,yH,xr,hnm]
  .rw [show (n.natAbs:Int)= -n by lia,show (m.natAbs:Int)= -m by lia,Int.neg_mul_neg]
  .rw [show (ycO==ycP)=ycP from rfl,yQ,yK rfl,show (n.natAbs:Int)= -n by lia,show (m.natAbs:Int)=m by lia,Int.neg_mul,yak]
  .rw [show (ycP==ycO)=ycP from rfl,yQ,yK rfl,show (n.natAbs:Int)=n by lia,show (m.natAbs:Int)= -m by lia,Int.mul_neg,yak]
  .rw [show (n.natAbs:Int)=n by lia,show (m.natAbs:Int)=m by lia]
 rw[e] at hr;obtain⟨w2,l2,rfl,jH,fw,gA,Di⟩:=hr;refine⟨_,?_,w2,l2,rfl,jH,fw,gA,Di⟩;unfold ah at e1 e2 ⊢;rw[aB h];simp only[go_sem,ya,yb,UL,aG,hx.pu,hx.af,hx.one,hy.pu,hy.af,hy.one,hz.af,hz.shut,jH.pu,jH.one,aZ,yd,cD,e1,zP,axn,e2,gQ,bf];rcases jH with ⟨rfl,_⟩ | ⟨e,rfl⟩<;>rfl
end
def axo(i:Nat)(q:List Int)(x:Int):(ye (i+1) (0:Int)++q).set i x=ye i 0++x::q:=by
 rw[List.replicate_succ',xu,List.set_append_right _ _ (by simp)]
 simp
def aAt(hv:bl v a)(ha:dg a)(la:a.length<=20000000000)(h0:0<d)(h1:d<1000000000):
  cL P L [0,1,6,7,8] NS (fun k s=>∃(j r:Nat) (q:List Int),s=⟨[(0,v),(1,aa d),(6,.av 0 0 a.length),(7,aa r),(8,aa ((j:Int)-1))],[(0,.cells ycO ycO ycO 1 ((ye j (0:Int)++q).map aa))],1,0⟩/\j=k/\j+q.length=a.length/\r<d/\dg q/\dv (a.drop j)=d*dv q+r) (fun ex s'=>∃tm r q,s'=⟨tm,[(0,.cells ycO ycO ycO 1 (q.map aa))],1,0⟩/\ex=.exit 0/\ab tm 6=.av 0 0 a.length/\ab tm 7=aa (r:Nat)/\q.length=a.length/\r<d/\dg q/\dv a=d*dv q+r):=by
 apply cP;rintro k s ⟨j,r,q,rfl,rfl,hl,hr,hd,aR⟩
 cases j with
 | zero=>
  right
  simp only[go_sem,ya,NS,show ¬(0:Int)<=((0:Nat):Int)-1 by lia];exact⟨_,_,rfl,by simp,_,r,q,rfl,rfl,rfl,rfl,by lia,hr,hd,aR⟩
 | succ i=>
  left
  have hi:i<a.length:=by lia
  obtain⟨x,hx⟩:∃x,x=a.getD i 0:=⟨_,rfl⟩;have e1:=AK hv hi;have gx:=jM ha i;rw[<-hx] at e1 gx;obtain⟨t,ht⟩:∃t:Nat,t=r*1000000000+x.toNat:=⟨_,rfl⟩;have DE:(r:Int)*1000000000+x=(t:Int):=by lia
  have nM:t<d*1000000000:=by
   lia
  have gM:t/d<1000000000:=(wE h0).2 (by rw[xY];exact nM)
  have bQ:t%d<d:=xV _ h0;have e2:((t:Nat):Int).tdiv d=((t/d:Nat):Int):=by rw[xR (by lia)];rfl
  have e3:((t:Nat):Int).tmod d=((t%d:Nat):Int):=by rw[xF (by lia)];rfl
  have Qc:(ye (i+1) (0:Int)++q).length=a.length:=by simp;lia
  have aK:=fun (hp:Hp) (ct id:Nat) (ex:Bool)=>FQ (hp:=hp) (ct:=ct) (id:=id) (ex:=ex) (v:=((t/d:Nat):Int)) (l:=ye (i+1) (0:Int)++q) (o:=i) (by rw[Qc];exact hi)
  simp only[axo] at aK
  simp only[go_sem,ya,yf,NS,show ((i+1:Nat):Int)-1=(i:Int) by lia,show (0:Int)<=(i:Int) by lia,wrap64 (n:=(r:Int)*1000000000) (by lia) (by lia),e1,DE,wrapN (n:=t) (by lia),gN _ _ _ (show (d:Int)≠0 by lia),iD _ _ _ (show (d:Int)≠0 by lia),e2,e3,wrapN (n:=t/d) (by lia),b9 0 0 (show i<a.length from hi),yd,aK]
  refine⟨_,i,rfl,by lia,i,t%d,((t/d:Nat):Int)::q,?_,rfl,by simp;lia,bQ,(jo (a:=[((t/d:Nat):Int)]) (b:=q)).2 ⟨nY.2 ⟨yaq _,tq.2 gM⟩,hd⟩,?_⟩
  .rw [wrap64 (by lia) (by lia)];simp only[go_sem,ya,yb,ao,aj hv.pu]<;>rfl
  .have ik:a.drop i=x::a.drop (i+1):=by
    rw[yP hi,hx];simp[yW,xz hi]
   rw[ik];simp only[dv,aR,xx];have e:=wF t d;rw[xO,xO d,Nat.mul_left_comm 1000000000 d]
   lia
def amK(h:Has P L 299 E3)(db:Has P L 300 pk)(hv:bl v a)(ha:dg a)(la:a.length<=20000000000)(h0:0<d)(h1:d<1000000000):
  ∃r q,ah P L 299 [v,aa d] (.ax [r,aa (dv a%d:Nat)])/\bl r q/\shut r=r/\cd r=r/\dg q/\nz q/\dv q=dv a/d:=by
 obtain⟨n,hn⟩:∃n,n=a.length:=⟨_,rfl⟩;have ck:∀ct:Nat,rE ct 1 8 [.int .i64 0] (Ix n) (Ix n)=Ix (.av ct 0 n,.cells ycO ycO ycO 1 ((ye n (0:Int)).map aa)):=fun ct=>by
  rw[BF (sz:=1) (by lia) (by lia) (by rfl) (by rfl),Xz];rfl
 unfold ah;rw[aB h];simp only[go_sem,ya,yb,E3,hv.len,<-hn,ck];generalize hq:D P L (.loop _ NS) _=q;obtain⟨ex,s,rfl,tm,r,qs,rfl,rfl,t6,t7,hlen,hr,hd,aR⟩:=bg hq (aAt (P:=P) (L:=L) hv ha la h0 h1 a.length) ⟨a.length,0,[],by
  rw[wrap64 (by lia) (by lia),wh,<-hn]
  simp only[go_sem,ya,yb,ao,aj hv.pu]<;>rfl,rfl,by simp,h0,rfl,by rw[yY (ym _)];simp[dv]⟩
 have kG:=fZ ycO qs;rw[hlen] at kG;have⟨w,e1,hw,jU⟩:=E9 db kG (by lia);have gV:dv a/d=dv qs/\dv a%d=r:=(Nat.div_mod_unique h0).2 ⟨by lia,hr⟩;refine⟨w,eZ qs,?_,hw,jU,hw.cd,D9 hd,IZ qs,by rw[CC,gV.1]⟩;have iz:∀hp:Hp,nG 0 a.length (Ix (ycO,1,qs.map aa,hp))=Ix (.aF ycO a.length (qs.map aa),hp):=fun hp=>oR ycO (by simp[hlen]) (by decide)
 rw[gV.2];simp only[go_sem,ya,yb,ao,t6,t7,iz,e1,jU];rcases hw with ⟨rfl,_⟩ | ⟨e,rfl⟩<;>rfl
def aEL(h:Has P L 279 Kb)(abL:Has P L 295 OX)(sL:Has P L 296 BW)(Vh:Has P L 297 OY)(rG:Has P L 302 BX)(kj:Has P L 294 E0)(db:Has P L 300 pk){w:AV}{n m:Int}(hK:K<=8000000000)(hv:mS v n)(hw:mS w m)(hn:n.natAbs<1000000000^K)(hm:m.natAbs<1000000000^K):
  ∃r,ah P L 279 [v,w] r/\mS r (n+m):=by
 obtain⟨x,a,rfl,hx,ha,na,va⟩:=hv;obtain⟨y,b,rfl,hy,hb,nb,vb⟩:=hw;have la:=xB (lU ha na (by rw[va];exact hn)) hK
 have lb:=xB (lU hb nb (by rw[vb];exact hm)) hK
 by_cases hs:(decide (n<0)==decide (m<0))=ycO
 .have ⟨z,out,e1,hz,hd,aR,hl⟩:=aEK abL rG hx hy ha hb (by lia) (by lia);have lo:out.length<=20000000000:=by lia
  have⟨r,e2,hr⟩:=AR kj db (decide (n<0)) hz hd lo;have e:cJ (decide (n<0)) (dv out)=n+m:=by
   have FR:(n<0)=(m<0):=by simpa using eq_of_beq hs
   rw[aR,va,vb];unfold cJ;by_cases h0:n<0
   .have h1:m<0:=FR▸h0;simp only[h0,yo,xL];lia
   .have h1:¬m<0:=FR▸h0;simp only[h0,yp,yH,xr];lia
  rw[e] at hr;obtain⟨w2,l2,rfl,jH,fw,gA,Di⟩:=hr;refine⟨_,?_,w2,l2,rfl,jH,fw,gA,Di⟩;unfold ah at e1 e2 ⊢;rw[aB h];simp only[go_sem,ya,yb,Kb,aG,hx.pu,hx.af,hx.one,hy.pu,hy.af,hy.one,hz.af,jH.pu,jH.one,aZ,yd,cD,e1,zP,eV,hs,e2,gQ,bf];rcases jH with ⟨rfl,_⟩ | ⟨e,rfl⟩<;>rfl
 .have hs:(decide (n<0)==decide (m<0))=ycP:=by simpa using hs
  have FR:¬((n<0)=(m<0)):=fun e=>by simp[e] at hs
  have ec:=abJ sL hx hy ha hb na nb (by lia) (by lia);by_cases hc:dv a<dv b
  .have fh:eL (dv a) (dv b)= -1:=by unfold eL;rw[yK hc]
   rw[fh] at ec;have⟨z,out,e1,hz,jU,hd,FJ,aR⟩:=amJ Vh rG db hy hx hb ha nb na (by lia) (by lia);have lo:out.length<=20000000000:=by
    refine lU hd FJ ?_
    have:=mK hb
    have hk:∀K,b.length<=K->dv out<1000000000^K:=fun K h=>yT (show dv out<1000000000^b.length by lia) (y9 (by decide) h)
    exact hk 20000000000 (by lia)
   have⟨r,e2,hr⟩:=AR kj db (decide (m<0)) hz hd lo;have e:cJ (decide (m<0)) (dv out)=n+m:=by
    rw[va,vb] at aR;unfold cJ;by_cases h0:m<0
    .have h1:¬n<0:=fun h1=>FR (by simp[h0,h1])
     simp only[h0,yo,xL];lia
    .have h1:n<0:=by
      by_cases h1:n<0
      .exact h1
      .exact absurd (by simp[h0,h1]) FR
     simp only[h0,yp,yH,xr];lia
   rw[e] at hr;obtain⟨w2,l2,rfl,jH,fw,gA,Di⟩:=hr;refine⟨_,?_,w2,l2,rfl,jH,fw,gA,Di⟩;unfold ah at e1 e2 ec ⊢;rw[aB h];simp only[go_sem,ya,yb,Kb,aG,hx.pu,hx.af,hx.one,hy.pu,hy.af,hy.one,hz.af,hz.shut,jH.pu,jH.one,aZ,yd,cD,e1,zP,eV,hs,ec,show ¬(0:Int)<=-1 by decide,e2,gQ,bf];rcases jH with ⟨rfl,_⟩ | ⟨e,rfl⟩<;>rfl
  .have fh:(0:Int)<=eL (dv a) (dv b):=by unfold eL;rw[yx hc];split<;>decide
   have⟨z,out,e1,hz,jU,hd,FJ,aR⟩:=amJ Vh rG db hx hy ha hb na nb (by lia) (by lia);have lo:out.length<=20000000000:=by
    refine lU hd FJ ?_
    have:=mK ha
    have hk:∀K,a.length<=K->dv out<1000000000^K:=fun K h=>yT (show dv out<1000000000^a.length by lia) (y9 (by decide) h)
    exact hk 20000000000 (by lia)
   have⟨r,e2,hr⟩:=AR kj db (decide (n<0)) hz hd lo;have e:cJ (decide (n<0)) (dv out)=n+m:=by
    rw[va,vb] at aR;unfold cJ;by_cases h0:n<0
    .have h1:¬m<0:=fun h1=>FR (by simp[h0,h1])
     simp only[h0,yo,xL];lia
    .have h1:m<0:=by
      by_cases h1:m<0
      .exact h1
      .exact absurd (by simp[h0,h1]) FR
     simp only[h0,yp,yH,xr];lia
   rw[e] at hr;obtain⟨w2,l2,rfl,jH,fw,gA,Di⟩:=hr;refine⟨_,?_,w2,l2,rfl,jH,fw,gA,Di⟩;unfold ah at e1 e2 ec ⊢;rw[aB h];simp only[go_sem,ya,yb,Kb,aG,hx.pu,hx.af,hx.one,hy.pu,hy.af,hy.one,hz.af,hz.shut,jH.pu,jH.one,aZ,yd,cD,e1,zP,eV,hs,ec,fh,e2,gQ,bf];rcases jH with ⟨rfl,_⟩ | ⟨e,rfl⟩<;>rfl
def aiH{l:List Int}(hd:dg l)(hn:nz l)(h:dv l<1000000000):l.length<=1:=lU hd hn (by simpa using h)
def aEM(h:Has P L 289 BV)(sL:Has P L 296 BW)(zZ:Has P L 299 E3)(db:Has P L 300 pk){w:AV}{b:List Int}(hv:bl v a)(hw:bl w b)(ha:dg a)(hb:dg b)(na:nz a)(nb:nz b)(la:a.length<=20000000000)(lb:b.length<=1)(h0:0<dv b):
  ∃q r lq lr,ah P L 289 [v,w] (.ax [q,r])/\bl q lq/\bl r lr/\dg lq/\nz lq/\dg lr/\nz lr/\dv lq=dv a/dv b/\dv lr=dv a%dv b:=by
 have ec:=abJ sL hv hw ha hb na nb la (by lia);by_cases hc:dv a<dv b
 .have fh:eL (dv a) (dv b)= -1:=by unfold eL;rw[yK hc]
  rw[fh] at ec;refine⟨.ae,v,[],a,?_,mY,hv,rfl,rfl,ha,na,?_,?_⟩
  .unfold ah;rw[aB h];simp only[go_sem,ya,BV,hv.af,hw.af,ec,show (-1:Int)<0 by decide];rcases hv with ⟨rfl,_⟩ | ⟨e,rfl⟩<;>rfl
  .rw [wZ hc];rfl
  .rw [y8 hc]
 .have fh:¬eL (dv a) (dv b)<0:=by unfold eL;rw[yx hc];split<;>decide
  have qG:b.length=1:=by
   rcases xE b.length with e | e
   .rw [yu e] at h0;simp[dv] at h0
   .lia
  obtain⟨x,rfl⟩:∃x,b=[x]:=by
   cases b with
   | nil=>simp at qG
   | cons x r=>cases r with
    | nil=>exact⟨x,rfl⟩
    | cons y r=>simp at qG
  have gx:=nY.1 hb;obtain⟨d,hd⟩:∃d:Nat,x=d:=⟨x.toNat,by lia⟩;subst hd;have hdd:dv [((d:Nat):Int)]=d:=by simp[dv]
  rw[hdd] at h0 hc fh ec ⊢;have⟨q,lq,e1,hq,nP,aEN,dq,nq,vq⟩:=amK zZ db hv ha la h0 (by lia);have ak9:dv a%d<d:=xV _ h0;generalize dv a%d=m at*
  have⟨r,e2,hr,hrs⟩:=E9 db (fZ ycO [(m:Int)]) (by simp);refine⟨q,r,lq,eZ [(m:Int)],?_,hq,hr,dq,nq,D9 (nY.2 (by lia)),IZ _,vq,by rw[CC];simp[dv]⟩;have e3:=hw.aT (i:=0) (by simp);simp only[yB,yI,yd,yS,wu,wJ] at e2 e3;unfold ah;rw[aB h];simp only[go_sem,ya,yb,yA,yi,yf,BV,hv.af,hw.len,hw.af,ec,fh,yB,yI,show ((1:Nat):Int)=(1:Int) from rfl,yo,e3,e1,aEN,e2,hrs];rcases hq with ⟨rfl,_⟩ | ⟨e,rfl⟩<;>rcases hr with ⟨rfl,_⟩ | ⟨e',rfl⟩<;>rfl
section
variable {l post pre qs vs:List Int}{r t:Nat}
def sv:List Int->Int
 | []=>0
 | a::r=>a+1000000000*sv r
def agt:∀(a b:List Int),sv (a++b)=sv a+1000000000^a.length*sv b
 | [],b=>by simp[sv]
 | x::a,b=>by
  simp only[xC,sv,agt a b,yB,tW,ycF]
  grind
def aAu(x:Int):sv [x]=x:=by simp[sv]
def Ju:∀{l:List Int} {i:Nat} {x:Int},i<l.length->sv (l.set i x)=sv l+1000000000^i*(x-l.getD i 0)
 | [],i,x,h=>by simp at h
 | a::l,0,x,_=>by simp[sv];lia
 | a::l,i+1,x,h=>by
  have ih:=Ju (l:=l) (i:=i) (x:=x) (by simpa using h);simp only[List.set_cons_succ,sv,List.getD_cons_succ,ih,tW,ycF]
  grind
def SL(i:Nat):sv (l.take (i+1))=sv (l.take i)+1000000000^i*l.getD i 0:=by
 by_cases h:i<l.length
 .rw [yk h,agt,yJ,xq (by lia),aAu]
  grind
 .rw [yq (by lia),yq (by lia),M5 (by lia),Int.mul_zero,Int.add_zero]
def C7:∀{l:List Int},dg l->sv l=dv l
 | [],_=>rfl
 | a::l,h=>by
  have⟨h1,h2⟩:=jo.1 (show dg ([a]++l) from h);have h1:=nY.1 h1;simp only[sv,dv,C7 h2,yaR,xS]
  lia
section
variable {pre x post:List Int}{i:Nat}
def su:(pre++x++post).length=pre.length+x.length+post.length:=by grind
def Eu(h:i<x.length):(pre++x++post).getD (pre.length+i) 0=x.getD i 0:=by grind
def Tc(a:Int)(h:i<x.length):(pre++x++post).set (pre.length+i) a=pre++x.set i a++post:=by simp_all
end
def ajJ{i m:Nat}(h:i≠m):(l.set i x).getD m 0=l.getD m 0:=by simp_all
def asS{i:Nat}(h:i<l.length):(l.set i x).getD i 0=x:=by simp_all
abbrev H3(q u:List Int)(f:Int):Hp:=[(2,.cells ycO ycO ycO 1 (q.map aa)),(1,.cells ycO ycO ycP 1 (u.map aa)),(0,.cells ycP ycO ycO 1 [aa f])]
def Sb{live:List Nat}{a b c:List AV}(ht:AH 3 (cT tm live))(hl:(gY (cT tm live)).length<100000):
  bW live ⟨tm,[(2,.cells ycO ycO ycO 1 a),(1,.cells ycO ycO ycP 1 b),(0,.cells ycP ycO ycO 1 c)],ct,3⟩=⟨cT tm live,[(2,.cells ycO ycO ycO 1 a),(1,.cells ycO ycO ycP 1 b),(0,.cells ycP ycO ycO 1 c)],3,3⟩:=
 aeT ht ⟨by lia,.inl rfl,by lia,.inl rfl,by lia,.inl rfl,trivial⟩ (by
  have:lK 3 [(2,Obj.cells ycO ycO ycO 1 a),(1,Obj.cells ycO ycO ycP 1 b),(0,Obj.cells ycP ycO ycO 1 c)]=[]:=rfl
  rw[this,yI,xg];exact hl)
structure iN(x vs:List Int)(n v1 v2 u0 u1 u2:Nat):Prop where
 n2:2<=n
 nb:n<=20000000000
 lx:x.length=n+1
 lv:vs.length=n
 gx:dg x
 gv:dg vs
 fS:vs.getD (n-1) 0=(v1:Int)
 dC:vs.getD (n-2) 0=(v2:Int)
 h0:x.getD n 0=(u0:Int)
 h1:x.getD (n-1) 0=(u1:Int)
 h2:x.getD (n-2) 0=(u2:Int)
 pos:0<v1
 lt:dv x<1000000000*dv vs
section
variable {x vs:List Int}{n v1 v2 u0 u1 u2:Nat}
def iN.Qe(h:iN x vs n v1 v2 u0 u1 u2):v1<1000000000:=by have:=jM h.gv (n-1);rw[h.fS] at this;lia
def iN.H0(h:iN x vs n v1 v2 u0 u1 u2):v2<1000000000:=by have:=jM h.gv (n-2);rw[h.dC] at this;lia
def iN.u0W(h:iN x vs n v1 v2 u0 u1 u2):u0<1000000000:=by have:=jM h.gx n;rw[h.h0] at this;lia
def iN.Qf(h:iN x vs n v1 v2 u0 u1 u2):u1<1000000000:=by have:=jM h.gx (n-1);rw[h.h1] at this;lia
def iN.Qg(h:iN x vs n v1 v2 u0 u1 u2):u2<1000000000:=by have:=jM h.gx (n-2);rw[h.h2] at this;lia
def iN.parts(h:iN x vs n v1 v2 u0 u1 u2):∃p vr ur,dv vs=(v1*1000000000+v2)*p+vr/\vr<p/\dv x=((u0*1000000000+u1)*1000000000+u2)*p+ur/\ur<p:=by
 obtain⟨m,hm⟩:∃m,n=m+2:=⟨n-2,by have:=h.n2;lia⟩
 subst hm;have e1:=zD (l:=vs) (m+1);have e2:=zD (l:=vs) m;have f0:=zD (l:=x) (m+2);have f1:=zD (l:=x) (m+1);have f2:=zD (l:=x) m;have fS:vs.getD (m+1) 0=(v1:Int):=h.fS;have dC:vs.getD m 0=(v2:Int):=h.dC;have h0:x.getD (m+2) 0=(u0:Int):=h.h0;have h1:x.getD (m+1) 0=(u1:Int):=h.h1;have h2:x.getD m 0=(u2:Int):=h.h2
 rw[yq (by have:=h.lv;lia),fS,e2,dC] at e1
 rw[yq (by have:=h.lx;lia),h0,f1,h1,f2,h2] at f0
 simp only[xx] at e1 f0;have g1:=mK (Gn h.gv m)
 rw[yJ,xq (by have:=h.lv;lia)] at g1
 have g2:=mK (Gn h.gx m)
 rw[yJ,xq (by have:=h.lx;lia)] at g2
 refine⟨1000000000^m,_,_,?_,g1,?_,g2⟩
 .rw [e1,xJ,aCc]
 .rw [f0,show 1000000000^(m+2)=1000000000^m*1000000000*1000000000 by rw[xJ,xJ],xJ,aCd]
def iN.down(h:iN x vs n v1 v2 u0 u1 u2)(ht:t*v1+r=u0*1000000000+u1)(hr:r*1000000000+u2<t*v2):dv x/dv vs<=t-1:=by
 have⟨p,vr,ur,h1,h2,h3,h4⟩:=h.parts;exact afk h1 h3 h4 ht hr
def iN.stop(h:iN x vs n v1 v2 u0 u1 u2)(nM:t<1000000000)(ht:t*v1+r=u0*1000000000+u1)(hr:1000000000<=r\/t*v2<=r*1000000000+u2):t<=dv x/dv vs+1:=by
 have⟨p,vr,ur,h1,h2,h3,h4⟩:=h.parts;exact agd (by decide) h1 h2 h3 h.pos h.H0 nM ht hr
def iN.first(h:iN x vs n v1 v2 u0 u1 u2):dv x/dv vs<=(u0*1000000000+u1)/v1:=by
 have⟨p,vr,ur,h1,h2,h3,h4⟩:=h.parts;exact Xi h1 h3 h4 h.Qg h.pos
def iN.top(h:iN x vs n v1 v2 u0 u1 u2):u0<=v1:=by
 have⟨p,vr,ur,h1,h2,h3,h4⟩:=h.parts;exact age h1 h3 h2 h.H0 h.lt
def iN.digit(h:iN x vs n v1 v2 u0 u1 u2):dv x/dv vs<1000000000:=by
 refine (wE ?_).2 h.lt;rcases xE (dv vs) with h0 | h0
 .have:=h.lt;rw[h0] at this;simp at this
 .exact h0
def iN.small(h:iN x vs n v1 v2 u0 u1 u2)(ht:t*v1+r=u0*1000000000+u1)(hb:1000000000<=t):r<1000000000:=by
 have h1:=h.top;have h2:=h.Qf;have h3:=yR v1 hb
 grind
end
def aEO{u:Nat}(hr:r<1000000000)(hu:u<1000000000):r*1000000000<9223372036854775808/\r*1000000000+u<9223372036854775808:=by lia
def axp{w:AV}{x:List Int}{f:Int}(hw:bl w vs){n v1 v2:Nat}(hl:iN x vs n v1 v2 u0 u1 u2)(hM:M=pre.length+x.length+post.length)(Qt:M<=50000000000):
  cL P L [0,1,2,7,9,10] Er (fun k s=>∃t r:Nat,s=⟨[(0,.av 1 0 M),(1,w),(2,aa pre.length),(7,aa n),(9,aa t),(10,aa r)],H3 qs (pre++x++post) f,3,3⟩/\t*v1+r=u0*1000000000+u1/\r<1000000000/\dv x/dv vs<=t/\t=k) (fun ex s'=>∃tm ct t,s'=⟨tm,H3 qs (pre++x++post) f,ct,3⟩/\((ex=.exit 0/\ab tm 9=aa (t:Nat))\/(ex=.ret/\ab tm 6=aa (t:Nat)))/\ct=3/\t<1000000000/\dv x/dv vs<=t/\t<=dv x/dv vs+1):=by
 apply cP;rintro k s ⟨t,r,rfl,ht,hr,hQ,rfl⟩;have eH:=hl.n2;have Ah:=hl.nb;have hlx:=hl.lx;have Kk:=hl.Qe;have abg:=hl.H0;have amh:=hl.Qg;have aEP:=hl.u0W;have U8:=hl.Qf;have AT:=hl.pos;have Ak:=AK hw (i:=n-2) (by have:=hl.lv;lia)
 have fT:=AK hw (i:=n-1) (by have:=hl.lv;lia)
 rw[hl.dC] at Ak;rw[hl.fS] at fT;have Cp:=BQ (l:=pre++x++post) (o:=pre.length+(n-2)) (by rw[su];lia)
 rw[Eu (by lia),hl.h2] at Cp;have DO:(n:Int)-2=((n-2:Nat):Int):=by lia
 have Al:(n:Int)-1=((n-1:Nat):Int):=by lia
 have Qu:(pre.length:Int)+(n:Int)=((pre.length+n:Nat):Int):=rfl;have pn2:((pre.length+n:Nat):Int)-2=((pre.length+(n-2):Nat):Int):=by lia
 have aJs:t<=1000000000000000000:=by
  have:=yZ t AT
  lia
 have aJt:t*1<=t*v1:=yZ t AT;have⟨rm1,rm2⟩:=aEO hr amh;by_cases sU:1000000000<=t\/r*1000000000+u2<t*v2
 .have ht0:0<t:=by
   rcases xE t with h0 | h0
   .subst h0;lia
   .exact h0
  have h1:(t-1)*v1+(r+v1)=u0*1000000000+u1:=by
   obtain⟨p,rfl⟩:∃p,t=p+1:=⟨t-1,by lia⟩;rw[xU,Nat.one_mul] at ht;rw[Nat.add_sub_cancel];lia
  have FF:dv x/dv vs<=t-1:=by
   rcases sU with h | h
   .have:=hl.digit;generalize dv x/dv vs=q at*;lia
   .exact hl.down ht h
  have WS:((t:Nat):Int)-1=((t-1:Nat):Int):=by lia
  have stop:1000000000<=r+v1->t-1<1000000000/\t-1<=dv x/dv vs+1:=fun hb=>by
   have aY:t-1<1000000000:=by
    by_cases Cc:1000000000<=t-1
    .have:=hl.small h1 Cc;lia
    .lia
   exact⟨aY,hl.stop aY h1 (.inl hb)⟩
  by_cases hb:1000000000<=t
  .by_cases ep:1000000000<=r+v1
   .right
    have⟨s1,s2⟩:=stop ep
    simp only[go_sem,ya,Er,H3,show (1000000000:Int)<=(t:Int) by lia,WS,wrapN (n:=t-1) (by lia),Al,wrapN (n:=n-1) (by lia),fT,show (r:Int)+(v1:Int)=((r+v1:Nat):Int) from rfl,wrapN (n:=r+v1) (by lia),show (1000000000:Int)<=((r+v1:Nat):Int) by lia];exact⟨_,_,rfl,by simp,_,_,t-1,rfl,.inr ⟨rfl,rfl⟩,rfl,s1,FF,s2⟩
   .left
    simp only[go_sem,ya,Er,H3,show (1000000000:Int)<=(t:Int) by lia,WS,wrapN (n:=t-1) (by lia),Al,wrapN (n:=n-1) (by lia),fT,show (r:Int)+(v1:Int)=((r+v1:Nat):Int) from rfl,wrapN (n:=r+v1) (by lia),show ¬(1000000000:Int)<=((r+v1:Nat):Int) by lia];refine⟨_,t-1,rfl,by lia,t-1,r+v1,?_,h1,by lia,FF,rfl⟩;rw[Sb (by simp only[go_sem,ya,yA,pX,rh,pR,pO,At hw.pu,vv]) (by simp only[go_sem,ya,yb,yA,fX hw.pu])];simp only[go_sem,ya]
  .have Ag:=xo (show t<=999999999 by lia) (show v2<=999999999 by lia);have abM:r*1000000000+u2<t*v2:=sU.resolve_left hb;obtain⟨m,hm⟩:∃m,t*v2=m:=⟨_,rfl⟩;have em:(t:Int)*(v2:Int)=(m:Int):=by rw[<-hm,xS]
   rw[hm] at abM Ag;have K8:(r:Int)*1000000000=((r*1000000000:Nat):Int):=by lia
   have FE:((r*1000000000:Nat):Int)+(u2:Int)=((r*1000000000+u2:Nat):Int):=rfl;by_cases ep:1000000000<=r+v1
   .right
    have⟨s1,s2⟩:=stop ep
    simp only[go_sem,ya,yf,Er,H3,show ¬(1000000000:Int)<=(t:Int) by lia,DO,wrapN (n:=n-2) (by lia),Ak,em,wrapN (n:=m) (by lia),K8,wrapN rm1,Qu,wrapN (n:=pre.length+n) (by lia),pn2,wrapN (n:=pre.length+(n-2)) (by lia),b9 1 0 (show pre.length+(n-2)<M by lia),yd,Cp,FE,wrapN rm2,show ((r*1000000000+u2:Nat):Int)<(m:Int) from tq.2 abM,WS,wrapN (n:=t-1) (by lia),Al,wrapN (n:=n-1) (by lia),fT,show (r:Int)+(v1:Int)=((r+v1:Nat):Int) from rfl,wrapN (n:=r+v1) (by lia),show (1000000000:Int)<=((r+v1:Nat):Int) by lia];exact⟨_,_,rfl,by simp,_,_,t-1,rfl,.inr ⟨rfl,rfl⟩,rfl,s1,FF,s2⟩
   .left
    simp only[go_sem,ya,yf,Er,H3,show ¬(1000000000:Int)<=(t:Int) by lia,DO,wrapN (n:=n-2) (by lia),Ak,em,wrapN (n:=m) (by lia),K8,wrapN rm1,Qu,wrapN (n:=pre.length+n) (by lia),pn2,wrapN (n:=pre.length+(n-2)) (by lia),b9 1 0 (show pre.length+(n-2)<M by lia),yd,Cp,FE,wrapN rm2,show ((r*1000000000+u2:Nat):Int)<(m:Int) from tq.2 abM,WS,wrapN (n:=t-1) (by lia),Al,wrapN (n:=n-1) (by lia),fT,show (r:Int)+(v1:Int)=((r+v1:Nat):Int) from rfl,wrapN (n:=r+v1) (by lia),show ¬(1000000000:Int)<=((r+v1:Nat):Int) by lia];refine⟨_,t-1,rfl,by lia,t-1,r+v1,?_,h1,by lia,FF,rfl⟩;rw[Sb (by simp only[go_sem,ya,yA,pX,rh,pR,pO,At hw.pu,vv]) (by simp only[go_sem,ya,yb,yA,fX hw.pu])];simp only[go_sem,ya]
 .right
  have nM:t<1000000000:=Nat.lt_of_not_le fun e=>sU (.inl e)
  have Ag:=xo (show t<=999999999 from yay nM) (show v2<=999999999 from yay abg);have abN:t*v2<=r*1000000000+u2:=Nat.le_of_not_lt fun e=>sU (.inr e)
  have aCo:=hl.stop nM ht (.inr abN);obtain⟨m,hm⟩:∃m,t*v2=m:=⟨_,rfl⟩;have em:(t:Int)*(v2:Int)=(m:Int):=by rw[<-hm,xS]
  rw[hm] at abN Ag;have K8:(r:Int)*1000000000=((r*1000000000:Nat):Int):=by lia
  have FE:((r*1000000000:Nat):Int)+(u2:Int)=((r*1000000000+u2:Nat):Int):=rfl
  simp only[go_sem,ya,yf,Er,H3,show ¬(1000000000:Int)<=(t:Int) by lia,DO,wrapN (n:=n-2) (by lia),Ak,em,wrapN (n:=m) (by lia),K8,wrapN rm1,Qu,wrapN (n:=pre.length+n) (by lia),pn2,wrapN (n:=pre.length+(n-2)) (by lia),b9 1 0 (show pre.length+(n-2)<M by lia),yd,Cp,FE,wrapN rm2,show ¬((r*1000000000+u2:Nat):Int)<(m:Int) from fun e=>Nat.not_lt_of_le abN (tq.1 e)];exact⟨_,_,rfl,by simp,_,_,t,rfl,.inl ⟨rfl,rfl⟩,rfl,nM,hQ,aCo⟩
def aCp(h:Has P L 301 Dg){w:AV}{x:List Int}{f:Int}(hw:bl w vs){n v1 v2:Nat}(hl:iN x vs n v1 v2 u0 u1 u2)(hM:M=pre.length+x.length+post.length)(Qt:M<=50000000000):
  ∃t:Nat,kN P L (D P L) (H3 qs (pre++x++post) f) 3 301 [.av 1 0 M,w,aa pre.length]=Ix (aa t,H3 qs (pre++x++post) f,3)/\t<1000000000/\dv x/dv vs<=t/\t<=dv x/dv vs+1:=by
 have eH:=hl.n2;have Ah:=hl.nb;have hlx:=hl.lx;have Cq:below 3 w:=At hw.pu;have Kk:=hl.Qe;have aEP:=hl.u0W;have U8:=hl.Qf;have AT:=hl.pos;have fT:=AK hw (i:=n-1) (by have:=hl.lv;lia)
 rw[hl.fS] at fT;have FH:=BQ (l:=pre++x++post) (o:=pre.length+n) (by rw[su];lia)
 rw[Eu (by lia),hl.h0] at FH;have FI:=BQ (l:=pre++x++post) (o:=pre.length+(n-1)) (by rw[su];lia)
 rw[Eu (by lia),hl.h1] at FI;have Al:(n:Int)-1=((n-1:Nat):Int):=by lia
 have Qu:(pre.length:Int)+(n:Int)=((pre.length+n:Nat):Int):=rfl;have pn1:((pre.length+n:Nat):Int)-1=((pre.length+(n-1):Nat):Int):=by lia
 obtain⟨m,hm⟩:∃m,m=u0*1000000000+u1:=⟨_,rfl⟩;have em:(u0:Int)*1000000000=((u0*1000000000:Nat):Int):=by lia
 have em2:((u0*1000000000:Nat):Int)+(u1:Int)=(m:Int):=by lia
 have gV:=wF m v1;have AQ:=xV m AT;have Ta:=hl.first;rw[<-hm] at Ta;have aJG:m/v1<=m:=Nat.div_le_self _ _;have oq:IntKind.wrap .i64 ((m:Int).tdiv (v1:Int))=((m/v1:Nat):Int):=by
  rw[xR (by lia),<-Int.natCast_ediv,wrapN (by lia)]
 have or':(m:Int).tmod (v1:Int)=((m%v1:Nat):Int):=by rw[xF (by lia),<-Int.natCast_emod]
 rw[xY] at gV;generalize m/v1=q0 at*
 generalize m%v1=r0 at*
 have lf:∃ex tm t,D P L Dg.body ⟨fY 0 [.av 1 0 M,w,aa pre.length],H3 qs (pre++x++post) f,3,3⟩=Ix (ex,⟨tm,H3 qs (pre++x++post) f,3,3⟩)/\(ex=.normal\/ex=.ret)/\ab tm 6=aa (t:Nat)/\t<1000000000/\dv x/dv vs<=t/\t<=dv x/dv vs+1:=by
  simp only[go_sem,ya,yf,Dg,H3,hw.len,hl.lv,Qu,wrapN (n:=pre.length+n) (by lia),b9 1 0 (show pre.length+n<M by lia),yd,FH,em,wrapN (n:=u0*1000000000) (by lia),pn1,wrapN (n:=pre.length+(n-1)) (by lia),b9 1 0 (show pre.length+(n-1)<M by lia),FI,em2,wrapN (n:=m) (by lia),Al,wrapN (n:=n-1) (by lia),fT,gN _ _ _ (show (v1:Int)≠0 by lia),iD _ _ _ (show (v1:Int)≠0 by lia),oq,or'];generalize qQ:D P L (.loop _ Er) _=qq;obtain⟨ex,s,rfl,tm,ct,t,rfl,E6,rfl,g1,g2,g3⟩:=bg qQ (axp (P:=P) (L:=L) (qs:=qs) (f:=f) hw hl hM Qt q0) ⟨q0,r0,by
   rw[Sb (by simp only[go_sem,ya,yA,pX,rh,pR,pO,Cq,vv]) (by simp only[go_sem,ya,yb,yA,fX hw.pu])]
   simp only[go_sem,ya],by lia,by lia,Ta,rfl⟩
  rcases E6 with ⟨rfl,h9⟩ | ⟨rfl,h6⟩
  .simp only [go_sem,yA,H3,Sb,pX,pR,pO,h9,and_self];exact⟨_,_,t,rfl,.inr rfl,rfl,g1,g2,g3⟩
  .simp only [go_sem];exact⟨_,_,t,rfl,.inr rfl,h6,g1,g2,g3⟩
 have⟨ex,tm,t,g1,g2,g3,g4,g5,g6⟩:=lf;exact⟨t,aiF h g1 g2 (by show kJ _ [RV.t 6]=_;rw[aa7,aac,g3]),g4,g5,g6⟩
end
section
variable {p t v x z:Int}{post pre qs vs y:List Int}{n:Nat}
def aEQ(ht:0<=t/\t<1000000000)(hv:0<=v/\v<1000000000)(hb:0<=bo/\bo<1000000000):0<=t*v/\t*v<=999999998000000001/\0<=t*v+bo/\t*v+bo<=999999999000000000:=by
 have h1:=tk ht.1 hv.1;have h2:=ybf (show t<=999999999 by lia) (show v<=999999999 by lia) hv.1 (by decide)
 lia
def aER(hx:0<=x/\x<1000000000)(hp:0<=p/\p<=999999999000000000):
  (x-p.tmod 1000000000<0->0<=x-p.tmod 1000000000+1000000000/\x-p.tmod 1000000000+1000000000<1000000000/\0<=p.tdiv 1000000000+1/\p.tdiv 1000000000+1<1000000000/\x-p.tmod 1000000000+1000000000+p=x+1000000000*(p.tdiv 1000000000+1))/\
  (¬x-p.tmod 1000000000<0->x-p.tmod 1000000000<1000000000/\0<=p.tdiv 1000000000/\p.tdiv 1000000000<1000000000/\x-p.tmod 1000000000+p=x+1000000000*p.tdiv 1000000000):=by grind
def Y2{l:List Int}(h:dg l){i:Nat}(hz:0<=z/\z<1000000000):dg (l.set i z):=S5 h hz
def axq{b q DP X:Int}(h2:z+(q*v+bo)=x+b*DP)(h3:Y+q*X=S+p*bo):(Y+p*(z-x))+q*(X+p*v)=S+p*b*DP:=by grind
def axr{w:AV}{x:List Int}{f:Int}(hw:bl w vs){m:Nat}(lv:vs.length=n)(hM:M=pre.length+(n+1)+post.length)(Qt:M<=50000000000)(gv:dg vs)(ht:0<=t/\t<1000000000):
  cL P L [8,9,10,11,12,13,14,15,16] Jh (fun k s=>∃(i:Nat) (bo:Int) (y:List Int),s=⟨[(8,.av 0 0 1),(9,w),(10,aa n),(11,.av 1 0 M),(12,.av 2 0 m),(13,aa pre.length),(14,aa t),(15,aa bo),(16,aa i)],H3 qs (pre++y++post) f,3,0⟩/\i+k=n/\y.length=n+1/\dg y/\(0<=bo/\bo<1000000000)/\
    sv y+t*sv (vs.take i)=sv x+1000000000^i*bo) (fun ex s'=>∃tm bo y,s'=⟨tm,H3 qs (pre++y++post) f,3,0⟩/\ex=.exit 4/\ab tm 8=.av 0 0 1/\ab tm 9=w/\ab tm 10=aa n/\ab tm 11=.av 1 0 M/\ab tm 12=.av 2 0 m/\ab tm 13=aa pre.length/\ab tm 14=aa t/\ab tm 15=aa bo/\y.length=n+1/\dg y/\(0<=bo/\bo<1000000000)/\
    sv y+t*sv vs=sv x+1000000000^n*bo):=by
 apply cP;rintro k s ⟨i,bo,y,rfl,hk,ly,gy,lD,aR⟩;by_cases hi:i<n
 .left
  have Bb:=jM gv i;have Am:=jM gy i;have ev:=AK hw (i:=i) (by lia);have ey:=BQ (l:=pre++y++post) (o:=pre.length+i) (by rw[su];lia)
  rw[Eu (by lia)] at ey;have dW:=SL (l:=vs) i;obtain⟨a,ha⟩:∃a,a=vs.getD i 0:=⟨_,rfl⟩;obtain⟨d,hd⟩:∃d,d=y.getD i 0:=⟨_,rfl⟩;rw[<-ha] at Bb ev dW;rw[<-hd] at Am ey;have⟨p1,p2,p3,p4⟩:=aEQ ht Bb lD;have⟨s1,s2⟩:=aER Am ⟨p3,p4⟩;have gm:(i:Int)+(pre.length:Int)=((pre.length+i:Nat):Int):=by lia
  have aK:=fun (hp:Hp) (ct:Nat) (z:Int)=>FQ (hp:=hp) (ct:=ct) (id:=1) (v:=z) (ex:=ycP) (l:=pre++y++post) (o:=pre.length+i) (by rw[su];lia)
  have sG:=fun z=>Tc (pre:=pre) (x:=y) (post:=post) (i:=i) z (by lia)
  have aV:=fun z=>Ju (l:=y) (i:=i) (x:=z) (by lia)
  rw[<-hd] at aV;obtain⟨pr,oF⟩:∃pr,pr=t*a+bo:=⟨_,rfl⟩;obtain⟨dm,gV⟩:∃dm,pr.tmod 1000000000=dm:=⟨_,rfl⟩;obtain⟨dq,Ib⟩:∃dq,pr.tdiv 1000000000=dq:=⟨_,rfl⟩;have aJH:0<=dm/\dm<1000000000:=by rw[<-gV,xF (by lia)];lia
  have aJI:0<=dq/\dq<1000000000:=by rw[<-Ib,xR (by lia)];lia
  rw[<-oF,gV,Ib] at s1 s2;have key:∀z DP,z+(t*a+bo)=d+1000000000*DP->sv (y.set i z)+t*sv (vs.take (i+1))=sv x+1000000000^(i+1)*DP:=fun z DP h=>by
   rw[aV,dW,tW];exact axq h aR
  rw[<-oF] at key;by_cases ic:d-dm<0
  .have ⟨q1,q2,q3,q4,q5⟩:=s1 ic;have kk:=key _ _ q5;obtain⟨dr,ik⟩:∃dr,d-dm=dr:=⟨_,rfl⟩;rw[ik] at ic kk q1 q2
   simp only[go_sem,ya,yf,Jh,H3,show (i:Int)<(n:Int) by lia,ev,wrap64 (n:=t*a) (by lia) (by lia),<-oF,wrap64 (n:=pr) (by lia) (by lia),gm,wrapN (n:=pre.length+i) (by lia),b9 1 0 (show pre.length+i<M by lia),yd,ey,iD _ _ _ (show (1000000000:Int)≠0 by decide),gN _ _ _ (show (1000000000:Int)≠0 by decide),gV,Ib,ik,wrap64 (n:=dr) (by lia) (by lia),wrap64 (n:=dq) (by lia) (by lia),ic,wrap64 (n:=dr+1000000000) (by lia) (by lia),wrap64 (n:=dq+1) (by lia) (by lia),aK,sG];refine⟨_,k-1,rfl,by lia,i+1,dq+1,y.set i (dr+1000000000),?_,by lia,by simp[ly],Y2 gy ⟨q1,q2⟩,⟨q3,q4⟩,kk⟩;rw[wrap64 (by lia) (by lia)];simp only[go_sem,ya,yb,ao,aj hw.pu]<;>rfl
  .have ⟨q2,q3,q4,q5⟩:=s2 ic;have kk:=key _ _ q5;obtain⟨dr,ik⟩:∃dr,d-dm=dr:=⟨_,rfl⟩;rw[ik] at ic kk q2
   simp only[go_sem,ya,yf,Jh,H3,show (i:Int)<(n:Int) by lia,ev,wrap64 (n:=t*a) (by lia) (by lia),<-oF,wrap64 (n:=pr) (by lia) (by lia),gm,wrapN (n:=pre.length+i) (by lia),b9 1 0 (show pre.length+i<M by lia),yd,ey,iD _ _ _ (show (1000000000:Int)≠0 by decide),gN _ _ _ (show (1000000000:Int)≠0 by decide),gV,Ib,ik,wrap64 (n:=dr) (by lia) (by lia),wrap64 (n:=dq) (by lia) (by lia),ic,aK,sG];refine⟨_,k-1,rfl,by lia,i+1,dq,y.set i dr,?_,by lia,by simp[ly],Y2 gy ⟨by lia,q2⟩,⟨q3,q4⟩,kk⟩;rw[wrap64 (by lia) (by lia)];simp only[go_sem,ya,yb,ao,aj hw.pu]<;>rfl
 .right
  have:i=n:=by lia
  subst this;rw[yq (by lia)] at aR;simp only[go_sem,ya,Jh,H3,show ¬(i:Int)<(i:Int) by lia];exact⟨_,_,rfl,by simp,_,bo,y,rfl,rfl,rfl,rfl,rfl,rfl,rfl,rfl,rfl,rfl,ly,gy,lD,aR⟩
def axs{b c c' X:Int}(h2:z+b*c'=x+v+c)(h3:Y+p*c=S+X):(Y+p*(z-x))+p*b*c'=S+(X+p*v):=by grind
def axt{w:AV}{y0:List Int}{f:Int}(hw:bl w vs){m:Nat}(lv:vs.length=n)(hM:M=pre.length+(n+1)+post.length)(Qt:M<=50000000000)(gv:dg vs){top:Int}:
  cL P L [8,9,10,11,12,13,14,19,20] NM (fun k s=>∃(i:Nat) (c:Int) (y:List Int),s=⟨[(8,.av 0 0 1),(9,w),(10,aa n),(11,.av 1 0 M),(12,.av 2 0 m),(13,aa pre.length),(14,aa t),(19,aa c),(20,aa i)],H3 qs (pre++y++post) f,3,0⟩/\i+k=n/\y.length=n+1/\dg (y.take n)/\y.getD n 0=top/\(0<=c/\c<=1)/\
    sv y+1000000000^i*c=sv y0+sv (vs.take i)) (fun ex s'=>∃tm c y,s'=⟨tm,H3 qs (pre++y++post) f,3,0⟩/\ex=.exit 6/\ab tm 8=.av 0 0 1/\ab tm 9=w/\ab tm 10=aa n/\ab tm 11=.av 1 0 M/\ab tm 12=.av 2 0 m/\ab tm 13=aa pre.length/\ab tm 14=aa t/\ab tm 19=aa c/\y.length=n+1/\dg (y.take n)/\y.getD n 0=top/\(0<=c/\c<=1)/\
    sv y+1000000000^n*c=sv y0+sv vs):=by
 apply cP;rintro k s ⟨i,c,y,rfl,hk,ly,gy,sH,hc,aR⟩;by_cases hi:i<n
 .left
  have Bb:=jM gv i;have Am:=jM gy i;have e0:(y.take n).getD i 0=y.getD i 0:=by
   simp[yW,hi]
  rw[e0] at Am;have ev:=AK hw (i:=i) (by lia);have ey:=BQ (l:=pre++y++post) (o:=pre.length+i) (by rw[su];lia)
  rw[Eu (by lia)] at ey;have dW:=SL (l:=vs) i;obtain⟨a,ha⟩:∃a,a=vs.getD i 0:=⟨_,rfl⟩;obtain⟨d,hd⟩:∃d,d=y.getD i 0:=⟨_,rfl⟩;rw[<-ha] at Bb ev dW;rw[<-hd] at Am ey;have gm:(i:Int)+(pre.length:Int)=((pre.length+i:Nat):Int):=by lia
  have aV:=fun z=>Ju (l:=y) (i:=i) (x:=z) (by lia)
  rw[<-hd] at aV;have AQ:(d+a+c).tmod 1000000000=(d+a+c)%1000000000:=xF (by lia);have hdiv:(d+a+c).tdiv 1000000000=(d+a+c)/1000000000:=xR (by lia);obtain⟨z,hz⟩:∃z,z=(d+a+c)%1000000000:=⟨_,rfl⟩;obtain⟨c',iy⟩:∃z,z=(d+a+c)/1000000000:=⟨_,rfl⟩;have hzr:z+1000000000*c'=d+a+c:=by lia
  rw[<-hz] at AQ;rw[<-iy] at hdiv;have aK:=fun (hp:Hp) (ct:Nat)=>FQ (hp:=hp) (ct:=ct) (id:=1) (v:=z) (ex:=ycP) (l:=pre++y++post) (o:=pre.length+i) (by rw[su];lia)
  have sG:=Tc (pre:=pre) (x:=y) (post:=post) (i:=i) z (by lia)
  simp only[go_sem,ya,yf,NM,H3,show (i:Int)<(n:Int) by lia,ev,gm,wrapN (n:=pre.length+i) (by lia),b9 1 0 (show pre.length+i<M by lia),yd,ey,wrap64 (n:=d+a) (by lia) (by lia),wrap64 (n:=d+a+c) (by lia) (by lia),iD _ _ _ (show (1000000000:Int)≠0 by decide),gN _ _ _ (show (1000000000:Int)≠0 by decide),AQ,hdiv,wrap64 (n:=c') (by lia) (by lia),aK,sG];refine⟨_,k-1,rfl,by lia,i+1,c',y.set i z,?_,by lia,by simp[ly],?_,by rw[ajJ (by lia)];exact sH,⟨by lia,by lia⟩,?_⟩
  .rw [wrap64 (by lia) (by lia)];simp only[go_sem,ya,yb,ao,aj hw.pu]<;>rfl
  .rw [yaD];exact Y2 gy ⟨by lia,by lia⟩
  .rw [aV,dW,tW];exact axs hzr aR
 .right
  have:i=n:=by lia
  subst this;rw[yq (show vs.length<=i by lia)] at aR;simp only[go_sem,ya,NM,H3,show ¬(i:Int)<(i:Int) by lia];exact⟨_,_,rfl,by simp,_,c,y,rfl,rfl,rfl,rfl,rfl,rfl,rfl,rfl,rfl,rfl,ly,gy,sH,hc,aR⟩
def axu{t:Nat}(hV:0<V)(ly:y.length=n+1)(gy:dg (y.take n))(h:sv y=(A:Int)-t*V)(h1:A/V<=t)(h2:t<=A/V+1):
  (¬y.getD n 0<0->t=A/V/\sv y=((A%V:Nat):Int))/\(y.getD n 0<0->t=A/V+1/\sv y+V=((A%V:Nat):Int)):=by
 have gV:=wF A V;have hm:=xV A hV;have dW:=SL (l:=y) n;rw[yq (by lia),C7 gy] at dW;have Pm:=mK gy;have hp:(0:Int)<1000000000^n:=ycG (by decide);generalize y.getD n 0=top at*
 generalize A/V=Q at*
 have hq:t=Q\/t=Q+1:=by lia
 constructor
 .intro h0;have h3:0<=(1000000000:Int)^n*top:=tk (tr hp) (by lia);rcases hq with rfl | rfl
  .grind
  .grind
 .intro h0;have h3:(1000000000:Int)^n*top<=-(1000000000^n):=by
   have:=uI (show top<=-1 by lia) (tr hp)
   grind
  rcases hq with rfl | rfl
  .grind
  .grind
def ahy(ly:y.length=n+1)(gy:dg (y.take n))(h0:0<=sv y)(h1:sv y<1000000000^n):y.getD n 0=0/\dg y/\sv y=dv y:=by
 have dW:=SL (l:=y) n;rw[yq (by lia),C7 gy] at dW;have Pm:=mK gy;rw[yJ,xq (by lia)] at Pm;have hp:(0:Int)<1000000000^n:=ycG (by decide);have JO:((1000000000^n:Nat):Int)=(1000000000:Int)^n:=by simp
 have aJu:(dv (y.take n):Int)<1000000000^n:=by lia
 have ht:y.getD n 0=0:=by
  generalize y.getD n 0=top at*
  rcases Int.lt_trichotomy top 0 with h | h | h
  .have:=uI (show top<=-1 by lia) (tr hp)
   grind
  .grind
  .have:=uI (show 1<=top by lia) (tr hp)
   grind
 have hg:dg y:=by
  have e:y=y.take n++[0]:=by
   have h1:y=y.take n++y.drop n:=(xX n y).symm;have h2:y.drop n=[0]:=by
    rw[yP (by lia),yY (by lia)]
    grind
   grind
  rw[e];exact jo.2 ⟨gy,nY.2 ⟨by decide,by decide⟩⟩
 exact⟨ht,hg,C7 hg⟩
end
def axv{l:List Int}{i:Nat}(h:i<l.length):dv (l.drop i)=(l.getD i 0).toNat+1000000000*dv (l.drop (i+1)):=by
 rw[yP h]
 have:l[i]=l.getD i 0:=by simp_all
 rw[this];rfl
def Yw(l:List Int)(i:Nat)(h:i<=l.length):dv l=dv (l.take i)+1000000000^i*dv (l.drop i):=by
 conv=>lhs;rw[<-xX i l]
 rw[pM,yJ,xq h]
def axw{sx sy sV:Int}{p:Int}{t:Int}{yn z:Int}{szy:Int}(h1:sy+t*sV=sx+p*bo)(h2:szy=sy+p*(z-yn))(h3:z=yn-bo):szy=sx-t*sV:=by grind
def axx(AU:Has P L 301 Dg){w:AV}{f:Int}(hw:bl w vs)(gv:dg vs){n m:Nat}(lv:vs.length=n)(eH:2<=n)(hnM:n<M)(Qt:M<=20000000000)(hm:m=M-n)(fS:0<vs.getD (n-1) 0){U0:Nat}:
  cL P L [8,9,10,11,12,13] NN (fun k st=>∃(j:Nat) (us qs:List Int),st=⟨[(8,.av 0 0 1),(9,w),(10,aa n),(11,.av 1 0 M),(12,.av 2 0 m),(13,aa ((j:Int)-1))],H3 qs us f,3,0⟩/\j=k/\j<=m/\us.length=M/\qs.length=m/\dg us/\dg qs/\(∀i,i<j->qs.getD i 0=0)/\
    dv us+dv qs*dv vs=U0/\dv (us.drop j)<dv vs) (fun ex st'=>∃tm us qs,st'=⟨tm,H3 qs us f,3,0⟩/\ex=.exit 2/\ab tm 8=.av 0 0 1/\ab tm 10=aa n/\ab tm 11=.av 1 0 M/\ab tm 12=.av 2 0 m/\us.length=M/\qs.length=m/\dg us/\dg qs/\
    dv us+dv qs*dv vs=U0/\dv us<dv vs):=by
 apply cP;rintro k st ⟨j,us,qs,rfl,rfl,hj,lu,lq,gu,gq,hz,aR,sH⟩
 cases j with
 | zero=>
  right
  simp only[go_sem,ya,NN,H3,show ¬(0:Int)<=((0:Nat):Int)-1 by lia];exact⟨_,_,rfl,by simp,_,us,qs,rfl,rfl,rfl,rfl,rfl,rfl,lu,lq,gu,gq,aR,by simpa using sH⟩
 | succ j=>
  left
  obtain⟨pre,gm⟩:∃p,p=us.take j:=⟨_,rfl⟩;obtain⟨x,hx⟩:∃p,p=(us.drop j).take (n+1):=⟨_,rfl⟩;obtain⟨post,ja⟩:∃p,p=us.drop (j+(n+1)):=⟨_,rfl⟩;have lp:pre.length=j:=by rw[gm,yJ];lia
  have lx:x.length=n+1:=by rw[hx,yJ,xZ];lia
  have lpo:M=pre.length+(n+1)+post.length:=by rw[lp,ja,xZ];lia
  have nk:us=pre++x++post:=by
   rw[gm,hx,ja,<-vP,xu,xX,xX]
  have gpo:dg post:=by
   have:=gu;rw[nk] at this;exact (jo.1 this).2
  have gpx:=by have:=gu;rw[nk] at this;exact (jo.1 this).1
  have gx:dg x:=(jo.1 gpx).2;have abj:dg pre:=(jo.1 gpx).1;have hA:=axv (l:=us) (i:=j) (by lia);have Qk:=jM gu j;have K9:us.drop j=x++post:=by rw[ja,hx,<-vP,xX]
  have DQ:dv (us.drop j)=dv x+1000000000^(n+1)*dv post:=by rw[K9,pM,lx]
  have Qh:=mK gv;rw[lv] at Qh;have aY:dv (us.drop j)<1000000000*dv vs:=by lia
  have hp0:dv post=0:=by
   rcases xE (dv post) with e | e
   .exact e
   .have h1:=yZ (1000000000^(n+1)) e;rw[yf,xJ] at h1;rw[xJ] at DQ
    lia
  rw[hp0,xP,xg] at DQ;have Qv:=fun (l:List Int) (hl:dg l) (i:Nat)=>jM hl i
  obtain⟨v1,fT⟩:∃v:Nat,vs.getD (n-1) 0=v:=⟨(vs.getD (n-1) 0).toNat,by have:=Qv vs gv (n-1);lia⟩
  obtain⟨v2,Ak⟩:∃v:Nat,vs.getD (n-2) 0=v:=⟨(vs.getD (n-2) 0).toNat,by have:=Qv vs gv (n-2);lia⟩
  obtain⟨u0,FH⟩:∃v:Nat,x.getD n 0=v:=⟨(x.getD n 0).toNat,by have:=Qv x gx n;lia⟩
  obtain⟨u1,FI⟩:∃v:Nat,x.getD (n-1) 0=v:=⟨(x.getD (n-1) 0).toNat,by have:=Qv x gx (n-1);lia⟩
  obtain⟨u2,Cp⟩:∃v:Nat,x.getD (n-2) 0=v:=⟨(x.getD (n-2) 0).toNat,by have:=Qv x gx (n-2);lia⟩
  have hl:iN x vs n v1 v2 u0 u1 u2:=⟨eH,by lia,lx,lv,gx,gv,fT,Ak,FH,FI,Cp,by lia,by rw[<-DQ];exact aY⟩
  have U9:=hl.digit;have Ba:0<dv vs:=by lia
  have AQ:=xV (dv x) Ba;have⟨t,e1,ht1,ht2,ht3⟩:=aCp (P:=P) (L:=L) AU hw hl (pre:=pre) (post:=post) (qs:=qs) (f:=f) (M:=M) (by lia) (by lia);rw[<-nk,lp] at e1;have hbu:dv us=dv pre+1000000000^j*dv x:=by
   have:=Yw us j (by lia)
   rw[DQ,<-gm] at this;exact this
  have abk:∀y,dv (pre++y++post)=dv pre+1000000000^j*dv y:=fun y=>by
   rw[xu,pM,pM,hp0,xP,xg,lp]
  have oZ:=ago (b:=0) hbu aR;have Cq:below 3 w:=At hw.pu;have aV:=Ju (l:=qs) (i:=j) (x:=((dv x/dv vs:Nat):Int)) (by lia);have gq':dg (qs.set j ((dv x/dv vs:Nat):Int)):=S5 gq ⟨yaq _,tq.2 U9⟩;rw[hz j (by lia),Int.sub_zero,C7 gq,C7 gq'] at aV;have aV:dv (qs.set j ((dv x/dv vs:Nat):Int))=dv qs+1000000000^j*(dv x/dv vs):=by
   have JO:((1000000000^j*(dv x/dv vs):Nat):Int)=(1000000000:Int)^j*((dv x/dv vs:Nat):Int):=by rw[xS];simp
   rw[<-JO] at aV;exact yac (by rw[yaY,yaY,aV,yaR])
  have fin:∀(s':St) (x':List Int),bW [8,9,10,11,12,13] s'=⟨[(8,.av 0 0 1),(9,w),(10,aa n),(11,.av 1 0 M),(12,.av 2 0 m),(13,aa ((j:Int)-1))],H3 (qs.set j ((dv x/dv vs:Nat):Int)) (pre++x'++post) f,3,0⟩->x'.length=n+1->dg x'->sv x'=((dv x%dv vs:Nat):Int)->
    ∃(j':Nat) (us qs:List Int),bW [8,9,10,11,12,13] s'=⟨[(8,.av 0 0 1),(9,w),(10,aa n),(11,.av 1 0 M),(12,.av 2 0 m),(13,aa ((j':Int)-1))],H3 qs us f,3,0⟩/\j'=j/\j'<=m/\us.length=M/\qs.length=m/\dg us/\dg qs/\(∀i,i<j'->qs.getD i 0=0)/\dv us+dv qs*dv vs=U0/\dv (us.drop j')<dv vs:=fun s' x' hc lx' WA Ql=>by
   have amL:dv x'=dv x%dv vs:=by rw[C7 WA] at Ql;exact yac Ql
   refine⟨j,_,_,hc,rfl,by lia,by rw[su,lx'];lia,by simp[lq],jo.2 ⟨jo.2 ⟨abj,WA⟩,gpo⟩,gq',fun i hi=>by rw[ajJ (by lia)];exact hz i (by lia),?_,?_⟩
   .rw [abk,amL,aV];exact oZ
   .rw [xu,List.drop_left' lp,pM,hp0,xP,xg,amL];exact AQ
  have amM:=fun (z:Int) (hp:Hp) (ct:Nat)=>FQ (hp:=hp) (ct:=ct) (id:=2) (v:=z) (ex:=ycO) (l:=qs) (o:=j) (by lia)
  have svx:=C7 gx;have svv:=C7 gv;simp only[H3] at e1;simp only[go_sem,ya,NN,H3,show ((j+1:Nat):Int)-1=(j:Int) by lia,show (0:Int)<=(j:Int) by lia,ak8,e1];generalize qQ:D P L (.loop _ Jh) _=qq;obtain⟨ex,s,rfl,tm,bo,y,rfl,rfl,t8,t9,t10,t11,t12,t13,t14,t15,ly,gy,lD,hv⟩:=bg qQ (axr (P:=P) (L:=L) (x:=x) (pre:=pre) (post:=post) (qs:=qs) (f:=f) (m:=m) (M:=M) hw lv lpo (by lia) gv (t:=t) (by lia) n) ⟨0,0,x,by
   rw[nk,lp]
   simp only[go_sem,ya,yb,ao,aj hw.pu]<;>rfl,by lia,lx,gx,by lia,by simp[sv]⟩
  rw[lp] at t13;have hyn:=jM gy n;have eyn:=BQ (l:=pre++y++post) (o:=pre.length+n) (by rw[su];lia)
  rw[Eu (by lia),lp] at eyn;obtain⟨z,Qw⟩:∃z,z=y.getD n 0-bo:=⟨_,rfl⟩;have JV:=fun (hp:Hp) (ct:Nat)=>FQ (hp:=hp) (ct:=ct) (id:=1) (v:=z) (ex:=ycP) (l:=pre++y++post) (o:=j+n) (by rw[su];lia)
  have sG:=Tc (pre:=pre) (x:=y) (post:=post) (i:=n) z (by lia);rw[lp] at sG;rw[sG] at JV;have pz:=Ju (l:=y) (i:=n) (x:=z) (by lia);have Un:=axw hv pz Qw;have FG:(y.set n z).length=n+1:=by simp[ly]
  have H4:dg ((y.set n z).take n):=by
   have:(y.set n z).take n=y.take n:=by rw[yaD,yaB (by simp;lia)]
   rw[this];exact Gn gy n
  rw[svx,svv] at Un;have⟨s0,s1⟩:=axu Ba FG H4 Un ht2 ht3;have eg:(y.set n z).getD n 0=z:=asS (by lia);rw[eg] at s0 s1;have ezn:=BQ (l:=pre++y.set n z++post) (o:=pre.length+n) (by rw[su];lia)
  rw[Eu (by lia),lp,eg] at ezn;generalize y.set n z=y1 at*
  have hpn:((10^9:Int))=1000000000:=by decide
  by_cases ic:z<0
  .have ⟨f1,f2⟩:=s1 ic
   simp only[go_sem,ya,yb,yf,ao,aj hw.pu,t8,t9,t10,t11,t12,t13,t14,t15,show (j:Int)+(n:Int)=((j+n:Nat):Int) from rfl,wrapN (n:=j+n) (by lia),b9 1 0 (show j+n<M by lia),yd,eyn,<-Qw,wrap64 (n:=z) (by lia) (by lia),JV,ezn,ic];generalize Hw:D P L (.loop _ NM) _=qq2;obtain⟨ex,s,rfl,A1,c,y2,rfl,rfl,t8,t9,t10,t11,t12,t13,t14,t19,ly2,Wy,ald,hc,dC⟩:=bg Hw (axt (P:=P) (L:=L) (y0:=y1) (pre:=pre) (post:=post) (qs:=qs) (f:=f) (m:=m) (M:=M) (t:=(t:Int)-1) (top:=z) hw lv lpo (by lia) gv n) ⟨0,0,y1,by
    rw[lp,wrap64 (n:=(t:Int)-1) (by lia) (by lia)]
    simp only[go_sem,ya,yb,ao,aj hw.pu]<;>rfl,by lia,FG,H4,eg,by lia,by simp[sv]⟩
   rw[lp] at t13;have amN:=BQ (l:=pre++y2++post) (o:=pre.length+n) (by rw[su];lia)
   rw[Eu (by lia),lp,ald] at amN;have U7:=fun (hp:Hp) (ct:Nat)=>FQ (hp:=hp) (ct:=ct) (id:=1) (v:=z+c) (ex:=ycP) (l:=pre++y2++post) (o:=j+n) (by rw[su];lia)
   have TK:=Tc (pre:=pre) (x:=y2) (post:=post) (i:=n) (z+c) (by lia);rw[lp] at TK;rw[TK] at U7;have DD:=Ju (l:=y2) (i:=n) (x:=z+c) (by lia);rw[ald,show z+c-z=c by lia,dC,svv,f2] at DD;have Qi:(y2.set n (z+c)).length=n+1:=by simp[ly2]
   have Wz:dg ((y2.set n (z+c)).take n):=by
    have:(y2.set n (z+c)).take n=y2.take n:=by rw[yaD,yaB (by simp;lia)]
    rw[this];exact Wy
   have FT:((dv x%dv vs:Nat):Int)<1000000000^n:=by
    have JO:((1000000000^n:Nat):Int)=(1000000000:Int)^n:=by simp
    rw[<-JO];lia
   have⟨g1,g2,g3⟩:=ahy Qi Wz (by rw[DD];lia) (by rw[DD];exact FT)
   generalize y2.set n (z+c)=y3 at*
   have ft:(t:Int)-1=((dv x/dv vs:Nat):Int):=by rw[f1];lia
   simp only[go_sem,ya,yb,yf,ao,aj hw.pu,t8,t9,t10,t11,t12,t13,t14,t19,show (j:Int)+(n:Int)=((j+n:Nat):Int) from rfl,wrapN (n:=j+n) (by lia),b9 1 0 (show j+n<M by lia),yd,amN,wrap64 (n:=z+c) (by lia) (by lia),U7,b9 2 0 (show j<m by lia),amM];rw[ft];refine⟨_,j,rfl,by lia,fin _ y3 ?_ Qi g2 DD⟩;rw[wrap64 (by lia) (by lia)];simp only[go_sem,ya,yb,ao,aj hw.pu]<;>rfl
  .have ⟨f1,f2⟩:=s0 ic;have FT:((dv x%dv vs:Nat):Int)<1000000000^n:=by
    have JO:((1000000000^n:Nat):Int)=(1000000000:Int)^n:=by simp
    rw[<-JO];lia
   have⟨g1,g2,g3⟩:=ahy FG H4 (by rw[f2];lia) (by rw[f2];exact FT)
   simp only[go_sem,ya,yb,yf,ao,aj hw.pu,t8,t9,t10,t11,t12,t13,t14,t15,show (j:Int)+(n:Int)=((j+n:Nat):Int) from rfl,wrapN (n:=j+n) (by lia),b9 1 0 (show j+n<M by lia),yd,eyn,<-Qw,wrap64 (n:=z) (by lia) (by lia),JV,ezn,ic,b9 2 0 (show j<m by lia),amM];rw[f1];refine⟨_,j,rfl,by lia,fin _ y1 ?_ FG g2 f2⟩;rw[wrap64 (by lia) (by lia)];simp only[go_sem,ya,yb,ao,aj hw.pu]<;>rfl
def aAv(h:Has P L 292 Df){n:Nat}(hn:n<1000000000):ah P L 292 [aa n,aa 9] (.str (j9 9 n)):=by
 have key:=dT P L [0,1,5] sn
  (fun k st=>∃(m:Nat) (s:List Nat),st=⟨[(0,aa m),(1,aa 9),(5,.str s)],[],0,0⟩/\s.length+k=9/\m<10^k/\j9 9 n=j9 k m++s)
  (fun ex st=>∃tm ct,st=⟨tm,[],ct,0⟩/\ex=.exit 0/\ab tm 5=.str (j9 9 n)) ?_
 .unfold ah;rw[aB h];simp only[go_sem,Df];generalize hq:D P L (.loop _ sn) _=q;obtain⟨ex,st,rfl,tm,ct,rfl,rfl,h2⟩:=bg hq (key 9) ⟨n,[],by simp only[go_sem,ya,ao]<;>rfl,rfl,by lia,by simp⟩
  simp only[go_sem,ao,h2]
 .rintro k st ⟨m,s,rfl,hk,hm,hs⟩
  cases k with
  | zero=>
   right
   have WG:m=0:=by simpa using hm
   subst WG;simp only[go_sem,ya,sn,show ¬(0:Int)<((0:Nat):Int) by lia,show ¬((s.length:Nat):Int)<9 by lia];refine⟨_,_,rfl,by simp,_,_,rfl,rfl,?_⟩;rw[hs];rfl
  | succ k=>
   left
   have hr:((m:Int)).tmod 10=((m%10:Nat):Int):=by rw[xF (by lia)];rfl
   have hq:((m:Int)).tdiv 10=((m/10:Nat):Int):=by rw[xR (by lia)];rfl
   have hd:=afo (r:=m%10) (by lia);have PO:m<10000000000:=yT hm (by simpa using y9 (show 0<10 by decide) (show k+1<=10 by lia));have fin:∃s',D P L sn ⟨[(0,aa m),(1,aa 9),(5,.str s)],[],0,0⟩=Ix (.normal,s')/\bW [0,1,5] s'=⟨[(0,aa (m/10:Nat)),(1,aa 9),(5,.str ([48+m%10]++s))],[],0,0⟩:=by
    by_cases hc:(0:Int)<m
    .simp only [go_sem,ya,yb,sn,hc,iD _ _ _ (show (10:Int)≠0 by decide),gN _ _ _ (show (10:Int)≠0 by decide),hr,hq,wrapN (n:=m%10+1) (by lia),wrap64 (n:=((m/10:Nat):Int)) (by lia) (by lia),fD,ez,show ((m%10:Nat):Int)+1=((m%10+1:Nat):Int) from rfl,hd,iY (a:=[48+m%10]) (b:=s) (by simp;lia)]
     exact⟨_,rfl,by simp only[go_sem,ya,ao]⟩
    .simp only [go_sem,ya,yb,sn,hc,show ((s.length:Nat):Int)<9 by lia,iD _ _ _ (show (10:Int)≠0 by decide),gN _ _ _ (show (10:Int)≠0 by decide),hr,hq,wrapN (n:=m%10+1) (by lia),wrap64 (n:=((m/10:Nat):Int)) (by lia) (by lia),fD,ez,show ((m%10:Nat):Int)+1=((m%10+1:Nat):Int) from rfl,hd,iY (a:=[48+m%10]) (b:=s) (by simp;lia)]
     exact⟨_,rfl,by simp only[go_sem,ya,ao]⟩
   have⟨s',f1,f2⟩:=fin;exact⟨s',k,f1,by lia,m/10,_,f2,by simp;lia,by rw[xJ] at hm;lia,by rw[hs];simp[j9]⟩
def last_pos{l:List Int}(hd:dg l)(hn:nz l)(h:0<l.length):0<l.getD (l.length-1) 0:=by
 rcases snoc l with rfl | ⟨m,a,rfl⟩
 .grind
 .have e:(m++[a]).getD ((m++[a]).length-1) 0=a:=by simp_all
  have ha:=nY.1 (jo.1 hd).2;by_cases h0:a=0
  .subst h0
   have:=RJ m
   have e:=congrArg tK hn;rw[ML] at e
   grind
  .lia
def aAw(zW:Has P L 292 Df){neg:Bool}{w:AV}{l:List Int}(hw:bl w l)(hd:dg l)(hn:nz l)(hl:l.length<=20000000000):
  cL P L [1,3,4] NK (fun k s=>∃(j:Nat) (t:List Nat),s=⟨[(1,.ptr 0 0),(3,.str t),(4,aa ((j:Int)-1))],[(0,.cells ycO ycO ycO 2 [.bool neg,w])],1,0⟩/\j=k/\j<l.length/\0<dv (l.drop j)/\t=ay (dv (l.drop j))/\t.length<=9*(l.length-j)) (fun ex s'=>∃tm,s'=⟨tm,[(0,.cells ycO ycO ycO 2 [.bool neg,w])],1,0⟩/\ex=.exit 0/\ab tm 1=.ptr 0 0/\ab tm 3=.str (ay (dv l))/\(ay (dv l)).length<=180000000000):=by
 apply cP;rintro k s ⟨j,t,rfl,rfl,hj,AT,ht,htl⟩
 cases j with
 | zero=>
  right
  rw[yh] at ht;simp only[go_sem,ya,NK,show ¬(0:Int)<=((0:Nat):Int)-1 by lia];exact⟨_,_,rfl,by simp,_,rfl,rfl,rfl,by rw[<-ht];simp only[go_sem,ya],by rw[<-ht];lia⟩
 | succ i=>
  left
  have hi:i<l.length:=by lia
  obtain⟨x,hx⟩:∃x,x=l.getD i 0:=⟨_,rfl⟩;have e1:=AK hw hi;have gx:=jM hd i;rw[<-hx] at e1 gx;obtain⟨m,rfl⟩:∃m:Nat,x=m:=⟨x.toNat,by lia⟩;have e2:=aAv zW (n:=m) (by lia);unfold ah at e2;have hlp:=Yr 9 m;have ik:dv (l.drop i)=dv (l.drop (i+1))*10^9+m:=by
   have:l.drop i=(m:Int)::l.drop (i+1):=by
    rw[yP hi,hx];simp[yW,xz hi]
   rw[this];simp only[dv,xx];lia
  have aES:ay (dv (l.drop i))=t++j9 9 m:=by
   rw[ik,R7 9 _ m AT (by lia),ht]
  simp only[go_sem,ya,NK,show ((i+1:Nat):Int)-1=(i:Int) by lia,show (0:Int)<=(i:Int) by lia,aZ,yd,cD,e1,e2,iY (a:=t) (b:=j9 9 m) (by lia)];refine⟨_,i,rfl,by lia,i,t++j9 9 m,?_,rfl,by lia,by lia,aES.symm,by simp;lia⟩
  rw[wrap64 (by lia) (by lia)];simp only[go_sem,ya,yb,ao]<;>rfl
def abO(h:Has P L 282 OU)(zW:Has P L 292 Df){n:Int}(hK:K<=18000000000)(hv:mS v n)(hn:n.natAbs<1000000000^K):ah P L 282 [v] (.str (aU n))/\(aU n).length<=180000000001:=by
 obtain⟨w,l,rfl,hw,hd,hz,An⟩:=hv;have hl:=xB (lU hd hz (by rw[An];exact hn)) hK
 by_cases h0:l=[]
 .subst h0;have qJ:n=0:=by simp[dv] at An;lia
  subst qJ;refine⟨?_,by decide⟩;unfold ah;rw[aB h];simp only[go_sem,ya,yb,OU,aG,hw.len,hw.pu,hw.one,aZ,yd,cD,yI,show ((0:Nat):Int)=(0:Int) from rfl,yo];rfl
 .have AT:0<l.length:=uZ.2 h0;obtain⟨x,hx⟩:∃x,x=l.getD (l.length-1) 0:=⟨_,rfl⟩;have e1:=AK hw (show l.length-1<l.length by lia);have gx:=jM hd (l.length-1);have gp:=last_pos hd hz AT;rw[<-hx] at e1 gx gp;obtain⟨m,rfl⟩:∃m:Nat,x=m:=⟨x.toNat,by lia⟩;have e2:=abd zW (n:=m) (by lia);have ik:dv (l.drop (l.length-1))=m:=by
   rw[yP (show l.length-1<l.length by lia),yY (by lia)]
   have:l[l.length-1]=(m:Int):=by rw[hx];simp[yW,xz (show l.length-1<l.length by lia)]
   simp[dv,this]
  have h9:(ay m).length<=9:=Bu (k:=8) (by lia);have fin:∀neg:Bool,bM P L (D P L) 282 [.agg [.bool neg,w]]=Ix (.str ((if neg=ycO then [45] else [])++ay (dv l)))/\(ay (dv l)).length<=180000000000:=fun neg=>by
   rw[aB h]
   simp only[go_sem,ya,yb,OU,aG,hw.len,hw.pu,hw.one,aZ,yd,cD,show ¬(l.length:Int)=0 by lia,show (l.length:Int)-1=((l.length-1:Nat):Int) by lia,wrapN (n:=l.length-1) (by lia),e1,e2];generalize hq:D P L (.loop _ NK) _=q;obtain⟨ex,s,rfl,tm,rfl,rfl,t1,t3,hlen⟩:=bg hq (aAw (P:=P) (L:=L) zW (neg:=neg) hw hd hz (by lia) (l.length-1)) ⟨l.length-1,ay m,by
    rw[show (l.length:Int)-2=((l.length-1:Nat):Int)-1 by lia,wrap64 (by lia) (by lia)]
    simp only[go_sem,ya,yb,ao]<;>rfl,rfl,by lia,by rw[ik];lia,by rw[ik],by lia⟩
   refine⟨?_,hlen⟩
   cases neg with
   | true=>
    simp only[go_sem,ya,ao,t1,t3,aZ,yd,iY (a:=[45]) (b:=ay (dv l)) (by simp;lia),xL]
   | false=>
    simp only[go_sem,ya,ao,t1,t3,aZ,yd];rfl
  have⟨f1,f2⟩:=fin (decide (n<0));rw[An] at f1 f2;simp only[wN] at f1;rw[rZ] at f1;refine⟨f1,?_⟩;rw[<-rZ]
  split<;>simp<;>lia
structure Rb(P:aJ)(L:Lib):Prop where
 aET:Has P L 262 OO
 E8:Has P L 272 OT
 amO:Has P L 274 UJ
 amP:Has P L 275 UK
 aEU:Has P L 277 Hm
 aEV:Has P L 280 sE
 amQ:Has P L 281 UM
 abP:Has P L 282 OU
 amR:Has P L 288 UP
 Po:Has P L 289 BV
 Dh:Has P L 290 Kc
 abe:Has P L 291 OW
 zW:Has P L 292 Df
 oz:Has P L 293 EZ
 kj:Has P L 294 E0
 abL:Has P L 295 OX
 sL:Has P L 296 BW
 amS:Has P L 298 UQ
 zZ:Has P L 299 E3
 db:Has P L 300 pk
 rG:Has P L 302 BX
structure Ras(P:aJ)(L:Lib):Prop extends Rb P L where
 amT:Has P L 264 OP
 aEW:Has P L 268 OR
 Pp:Has P L 271 OS
 aEX:Has P L 276 zU
 Pq:Has P L 278 UL
 aEY:Has P L 279 Kb
 Vh:Has P L 297 OY
structure Ra(P:aJ)(L:Lib):Prop extends Ras P L where
 amU:Has P L 267 OQ
section
variable {v w:AV}{a b:List Int}
def axy{f:Int}(hv:bl v a)(hw:bl w vs){n:Nat}(la:a.length<=9000000000):
  cL P L [0,8,9,10,11] NL (fun k st=>∃us:List Int,st=⟨[(0,v),(8,.av 0 0 1),(9,w),(10,aa n),(11,.av 1 0 us.length)],[(1,.cells ycO ycO ycP 1 (us.map aa)),(0,.cells ycP ycO ycO 1 [aa f])],2,0⟩/\us.length+k=a.length+1/\dg us/\dv us=A) (fun ex st'=>∃tm us,st'=⟨tm,[(1,.cells ycO ycO ycP 1 (us.map aa)),(0,.cells ycP ycO ycO 1 [aa f])],2,0⟩/\ex=.exit 0/\ab tm 8=.av 0 0 1/\ab tm 9=w/\ab tm 10=aa n/\ab tm 11=.av 1 0 (a.length+1)/\us.length=a.length+1/\dg us/\dv us=A):=by
 apply cP;rintro k st ⟨us,rfl,hk,gu,aR⟩;have ea:((a.length:Nat):Int)+1=((a.length+1:Nat):Int):=rfl;by_cases hi:us.length<a.length+1
 .left
  simp only[go_sem,ya,yb,yi,yf,NL,hv.len,ea,wrapN (n:=a.length+1) (by lia),show ((us.length:Nat):Int)<((a.length+1:Nat):Int) by lia]
  rw[dZ (ex:=ycP) (pu:=ycO) (cs:=us.map aa) rfl (by simp) (by lia) (by lia) (by decide) rfl];refine⟨_,k-1,rfl,by lia,us++[0],?_,by simp;lia,jo.2 ⟨gu,nY.2 (by decide)⟩,by rw[pM];simp[dv,aR]⟩
  rw[yX,yE];simp only[go_sem,ya,yb,ao,aj hv.pu,aj hw.pu]<;>rfl
 .right
  have hl:us.length=a.length+1:=by lia
  rw[hl]
  simp only[go_sem,ya,NL,hv.len,ea,wrapN (n:=a.length+1) (by lia),show ¬((a.length+1:Nat):Int)<((a.length+1:Nat):Int) by lia];exact⟨_,_,rfl,by simp,_,us,rfl,rfl,rfl,rfl,rfl,rfl,hl,gu,aR⟩
def ajK:∀l:List Int,bP (l.map aa)=ycO
 | []=>rfl
 | a::r=>by rw[yS,agj,ajK r];rfl
def ajL:∀l:List Int,aD (l.map aa)=ycO
 | []=>rfl
 | a::r=>by rw[yS,aD,ajL r];rfl
def axz{e:Bool}{us:List Int}{o:Obj}(h:us.length<=100000000000):
  Hs ((1,.cells ycO ycO ycO 1 [])::(0,o)::hp) ct 1 8 (.av 1 0 0) (nT ((1,.cells ycO ycO ycO 1 [])::(0,o)::hp) 1 (.aF e us.length (us.map aa)))=Ix (.av ct 0 us.length,(ct,.cells ycO ycO ycP 1 (us.map aa))::eJ ((1,.cells ycO ycO ycO 1 [])::(0,o)::hp) 1,ct+1):=by
 have h1:nT ((1,.cells ycO ycO ycO 1 [])::(0,o)::hp) 1 (.aF e us.length (us.map aa))=Ix (us.length,us.map aa):=by
  simp[nT]
 rw[h1,dZ (cs:=[]) (pu:=ycO) (ex:=ycO) rfl (by simp) (by lia) (by lia) (by decide) (ajK us),ajL,yd];rfl
def aAx{l:List Int}(hd:dg l)(hn:nz l)(h:0<l.length):1000000000^(l.length-1)<=dv l:=TD hn hd (fun e=>by subst e;simp at h)
def au7{n top f:Nat}(hf:f=1000000000/(top+1))(ht0:0<top)(ht:top<1000000000)(h1:V<1000000000^(n-1)*(top+1))(hn:0<n):0<f/\f<1000000000/\V*f<1000000000^n:=by
 have h2:f*(top+1)<=1000000000:=by rw[hf];exact Nat.div_mul_le_self _ _
 have h3:0<f:=by rw[hf];exact Nat.div_pos (by lia) (by lia)
 refine⟨h3,?_,?_⟩
 .have:=yZ f (show 2<=top+1 by lia)
  lia
 .have e1:=vl h1 h3;have e2:=yZ (1000000000^(n-1)) h2;rw[<-xJ,show (n-1).succ=n by lia] at e2
  grind
def aAy(h:Has P L 289 BV)(oz:Has P L 293 EZ)(zZ:Has P L 299 E3)(db:Has P L 300 pk)(AU:Has P L 301 Dg)(hv:bl v a)(hw:bl w b)(ha:dg a)(hb:dg b)(na:nz a)(nb:nz b)(la:a.length<=8000000000)(lb:2<=b.length)(ec:ah P L 296 [v,w] (aa (eL (dv a) (dv b))))(hc:dv b<=dv a):
  ∃q r lq lr,ah P L 289 [v,w] (.ax [q,r])/\bl q lq/\bl r lr/\dg lq/\nz lq/\dg lr/\nz lr/\dv lq=dv a/dv b/\dv lr=dv a%dv b:=by
 have fh:¬eL (dv a) (dv b)<0:=by unfold eL;rw[yx (by lia)];split<;>decide
 have aCq:=aAx hb nb (by lia);have hba:b.length<=a.length:=by
  have:=mK ha
  have h1:1000000000^(b.length-1)<1000000000^a.length:=by lia
  have:=(tH (show 1<1000000000 by decide)).1 h1
  lia
 obtain⟨n,hn⟩:∃n,n=b.length:=⟨_,rfl⟩;have aEZ:=jM hb (n-1);have EL:=last_pos hb nb (by lia);rw[<-hn] at EL;obtain⟨top,sH⟩:∃v:Nat,b.getD (n-1) 0=v:=⟨(b.getD (n-1) 0).toNat,by lia⟩;have amV:=AK hw (i:=n-1) (by lia);rw[sH] at aEZ EL amV;have hbt:=zD (l:=b) (n-1);rw[show n-1+1=n by lia,yq (by lia),sH,xx] at hbt;have aCr:=mK (Gn hb (n-1));rw[yJ,xq (by lia)] at aCr;obtain⟨f,hf⟩:∃f,f=1000000000/(top+1):=⟨_,rfl⟩;have⟨Im,hfB,hfV⟩:=au7 (n:=n) (V:=dv b) hf (by lia) (by lia) (by rw[xO,yf];lia) (by lia)
 have hIf:bl (.aF ycO 1 [aa f]) [(f:Int)]:=fZ ycO [(f:Int)];have gf:dg [(f:Int)]:=nY.2 (by lia);have vf:dv [(f:Int)]=f:=by simp[dv]
 have⟨v',vs,e1,gD,hsv,Ia,Qm,Cr⟩:=abK oz db hw hIf hb gf (by lia) (by simp);have⟨u',FU,e2,lE,HY,La,nus,Qx⟩:=abK oz db hv hIf ha gf (by lia) (by simp);rw[vf] at Cr Qx;have Ba:0<dv b:=by have:=ybL (n:=b.length-1) (show 0<1000000000 by decide);lia
 have DR:vs.length=n:=by
  have h1:vs.length<=n:=lU Ia Qm (by rw[Cr];exact hfV)
  have h2:dv b<=dv vs:=by rw[Cr];exact Nat.le_mul_of_pos_right _ Im
  have h3:=mK Ia;have h4:1000000000^(n-1)<1000000000^vs.length:=by rw[hn];lia
  have:=(tH (show 1<1000000000 by decide)).1 h4
  lia
 have WB:FU.length<=a.length+1:=by
  refine lU La nus ?_;rw[Qx,xJ];exact th (mK ha) hfB
 have amW:0<FU.length:=by
  rcases xE FU.length with e | e
  .have h1:0<dv a*f:=ux (by lia) Im;rw[yu e] at Qx;simp only[dv] at Qx;lia
  .exact e
 have fS:0<vs.getD (n-1) 0:=by
  have:=last_pos Ia Qm (by lia)
  rwa[DR] at this
 obtain⟨m,hm⟩:∃m,m=a.length+1-n:=⟨_,rfl⟩;have ck:∀ct:Nat,rE ct 1 8 [.int .i64 0] (Ix m) (Ix m)=Ix (.av ct 0 m,.cells ycO ycO ycO 1 ((ye m (0:Int)).map aa)):=fun ct=>by
  rw[BF (sz:=1) (by lia) (by lia) (by rfl) (by rfl),Xz];rfl
 obtain⟨e,rfl⟩:∃e,u'=.aF e FU.length (FU.map aa):=by
  rcases lE with ⟨rfl,h0⟩ | ⟨e,rfl⟩
  .rw [List.map_eq_nil_iff] at h0;rw[h0] at amW;simp at amW
  .exact ⟨e,by rw[yg]⟩
 have aaf:∀us:List Int,us.length=a.length+1->dv us=dv a*f->dv (us.drop m)<dv vs:=fun us hl hd=>by
  have e1:=Yw us m (by lia);have e2:=mK ha;have e3:=vl e2 Im;have e4:1000000000^a.length=1000000000^m*1000000000^(n-1):=by rw[<-wP];congr 1;lia
  rw[<-hd,e4,xD] at e3;have e5:1000000000^m*dv (us.drop m)<1000000000^m*(1000000000^(n-1)*f):=by lia
  refine yT (Nat.lt_of_mul_lt_mul_left e5) ?_;rw[Cr,hn];exact yR _ aCq
 have lf:∃us qs,(us.length=a.length+1/\qs.length=m/\dg us/\dg qs/\dv us+dv qs*dv vs=dv a*f/\dv us<dv vs)/\
   ∃q1 r1 lr,bl q1 (eZ qs)/\bl r1 lr/\dg lr/\nz lr/\dv lr=dv (us.take n)/f/\ah P L 289 [v,w] (.ax [q1,r1]):=by
  unfold ah at ec e1 e2;unfold ah;rw[aB h];have Pe:IntKind.wrap .i64 ((1000000000:Int).tdiv ((top+1:Nat):Int))=(f:Int):=by
   rw[xR (by decide),show (1000000000:Int)/((top+1:Nat):Int)=((1000000000/(top+1):Nat):Int) from rfl,<-hf,wrap64 (by lia) (by lia)]
  simp only[go_sem,ya,yb,yA,yi,yf,BV,hv.af,hw.len,hw.af,ec,fh,show ¬(n:Int)=1 by lia,<-hn,show (n:Int)-1=((n-1:Nat):Int) by lia,wrapN (n:=n-1) (by lia),amV,show ((top:Nat):Int)+1=((top+1:Nat):Int) from rfl,wrapN (n:=top+1) (by lia),gN _ _ _ (show ((top+1:Nat):Int)≠0 by lia),Pe,e1,hsv,gD.len,DR,e2,HY,axz (us:=FU) (e:=e) (by lia)];generalize DL:D P L (.loop _ NL) _=q0;obtain⟨ex,st,rfl,tm,us,rfl,rfl,t8,t9,t10,t11,lu,gu,vu⟩:=bg DL (axy (P:=P) (L:=L) (f:=(f:Int)) (n:=n) (A:=dv a*f) hv gD (by lia) (a.length+1-FU.length)) ⟨FU,by
   simp only[go_sem,ya,yb,ao,aj hv.pu,aj gD.pu]<;>rfl,by lia,La,Qx⟩
  have em:((a.length+1:Nat):Int)-(n:Int)=(m:Int):=by lia
  have em1:(m:Int)-1=((m-1:Nat):Int):=by lia
  simp only[go_sem,ya,yb,ao,aj gD.pu,t8,t9,t10,t11,em,wrapN (n:=m) (by lia),ck,em1,wrapN (n:=m-1) (by lia)];generalize gM:D P L (.loop _ NN) _=q1;obtain⟨ex,st,rfl,A1,FV,qs,rfl,rfl,t8,t10,t11,t12,lu1,Qp,gu1,gq1,aR,aY⟩:=bg gM (axx (P:=P) (L:=L) AU (f:=(f:Int)) gD Ia DR (by lia) (show n<a.length+1 by lia) (by lia) (by lia) fS (U0:=dv a*f) m) ⟨m,us,ye m 0,by
   rw[show ((m-1:Nat):Int)=(m:Int)-1 by lia]
   simp only[go_sem,ya,yb,ao,aj gD.pu]<;>rfl,rfl,ym _,lu,by simp,gu,ahb m,fun i _=>afy m i,by rw[aha,Nat.zero_mul,xg,vu],aaf us lu vu⟩
  have ki:∀(hp:Hp) tm (y:X),au hp 1=Ix (.cells ycO ycO ycP 1 (FV.map aa))->cS tm (a.length+1) (Ix y)=Ix n->gI hp (.sl 1) (.av 1 0 (a.length+1)) tm none (Ix y)=Ix (.av 1 0 n):=fun hp tm y h1 h2=>ahl h1 h2 (by lia) (by lia)
  obtain⟨e',Qo⟩:∃e',∀hp:Hp,nG 0 n (Ix (ycP,1,FV.map aa,hp))=Ix (.aF e' n ((FV.take n).map aa),hp):=by
   refine⟨ycP&&yU 0 1&&yG n (FV.map aa).length,fun hp=>?_⟩;simp only[nG,yd,yf,slice,yh,<-List.map_take];rw[yC (by simp;lia)]
   rfl
  have ltk:(FV.take n).length=n:=by rw[yJ];lia
  have iz:=fZ e' (FV.take n);rw[ltk] at iz;have⟨r0,f1,gK,aE0⟩:=E9 db iz (by lia);have⟨r1,lr,f2,bQ,aJJ,aCs,dr,nr,vr⟩:=amK zZ db gK (D9 (Gn gu1 n)) (by have:=RJ (FV.take n);lia) Im hfB
  have Qn:=fZ ycO qs;rw[Qp] at Qn;have⟨q1,f3,gM,aE1⟩:=E9 db Qn (by lia);rw[CC] at vr;unfold ah at f1 f2 f3;refine⟨FV,qs,⟨lu1,Qp,gu1,gq1,aR,aY⟩,q1,r1,lr,gM,bQ,dr,nr,vr,?_⟩;have sW:iZ 1 0 (AV.av 0 0 1)=Ix (.ptr 0 0):=b9 0 0 (show 0<1 by lia)
  simp only[go_sem,ya,yb,ao,t8,t10,t11,t12,ki,ez,Qo,f1,aE0,gK.af,sW,f2,aCs,fun hp=>oR (hp:=hp) (k:=m) (sz:=1) (cs:=qs.map aa) ycO (by simp[Qp]) (by decide),f3,aE1];rcases gM with ⟨rfl,_⟩ | ⟨_,rfl⟩<;>rcases bQ with ⟨rfl,_⟩ | ⟨_,rfl⟩<;>rfl
 have⟨us,qs,⟨lu,lq,gu,gq,aR,aY⟩,q1,r1,lr,gM,bQ,dr,nr,vr,e⟩:=lf;rw[Cr] at aR aY;have Pe:dv qs=dv a/dv b:=by
  rw[<-Nat.mul_div_mul_right _ _ Im,<-aR,ybJ,xY,Nat.mul_add_div (ux Ba Im),wZ aY,xg]
 have WD:dv us=(dv a%dv b)*f:=by
  rw[<-Nat.mul_mod_mul_right,<-aR,ybJ,xY (dv qs),Nat.mul_add_mod,y8 aY]
 have nk:=Yw us n (by lia);have iM:dv (us.drop n)=0:=by
  rcases xE (dv (us.drop n)) with h0 | h0
  .exact h0
  .have:=yZ (1000000000^n) h0
   lia
 rw[iM,xP,xg] at nk;rw[<-nk,WD,Nat.mul_div_cancel _ Im] at vr;exact⟨q1,r1,_,lr,e,gM,bQ,D9 gq,IZ _,dr,nr,by rw[CC,Pe],vr⟩
def ale(h:Has P L 289 BV)(oz:Has P L 293 EZ)(sL:Has P L 296 BW)(zZ:Has P L 299 E3)(db:Has P L 300 pk)(AU:Has P L 301 Dg)(hv:bl v a)(hw:bl w b)(ha:dg a)(hb:dg b)(na:nz a)(nb:nz b)(la:a.length<=8000000000)(lb:b.length<=8000000000)(h0:0<dv b):
  ∃q r lq lr,ah P L 289 [v,w] (.ax [q,r])/\bl q lq/\bl r lr/\dg lq/\nz lq/\dg lr/\nz lr/\dv lq=dv a/dv b/\dv lr=dv a%dv b:=by
 by_cases hl:b.length<=1
 .exact aEM h sL zZ db hv hw ha hb na nb (by lia) hl h0
 have ec:=abJ sL hv hw ha hb na nb (by lia) (by lia);by_cases hc:dv a<dv b
 .unfold ah at ec;have fh:eL (dv a) (dv b)= -1:=by unfold eL;rw[yK hc]
  rw[fh] at ec;refine⟨.ae,v,[],a,?_,mY,hv,rfl,rfl,ha,na,?_,?_⟩
  .unfold ah;rw[aB h];simp only[go_sem,ya,BV,hv.af,hw.af,ec,show (-1:Int)<0 by decide];rcases hv with ⟨rfl,_⟩ | ⟨e,rfl⟩<;>rfl
  .rw [wZ hc];rfl
  .rw [y8 hc]
 .exact aAy h oz zZ db AU hv hw ha hb na nb la (by lia) ec (by lia)
def alf(h:Has P L 275 UK)(Po:Has P L 289 BV)(oz:Has P L 293 EZ)(sL:Has P L 296 BW)(zZ:Has P L 299 E3)(db:Has P L 300 pk)(AU:Has P L 301 Dg)(hv:bl v a)(hw:bl w b)(ha:dg a)(hb:dg b)(na:nz a)(nb:nz b)(la:a.length<=8000000000)(lb:b.length<=8000000000):
  ∃r l,ah P L 275 [v,w] r/\bl r l/\dg l/\nz l/\dv l=wX (dv a) (dv b):=by
 have key:=dT P L [0,1] NJ
  (fun k st=>∃x y lx ly,st=⟨[(0,x),(1,y)],[],0,0⟩/\bl x lx/\bl y ly/\dg lx/\nz lx/\dg ly/\nz ly/\lx.length<=8000000000/\ly.length<=8000000000/\dv ly=k/\wX (dv lx) (dv ly)=wX (dv a) (dv b))
  (fun ex st=>∃tm ct,st=⟨tm,[],ct,0⟩/\ex=.exit 0/\∃x lx,ab tm 0=x/\bl x lx/\dg lx/\nz lx/\dv lx=wX (dv a) (dv b)) ?_
 .unfold ah;rw[aB h];simp only[go_sem,UK];generalize hq:D P L (.loop _ NJ) _=q;obtain⟨ex,st,rfl,tm,ct,rfl,rfl,x,lx,h2,hx,dx,nx,vx⟩:=bg hq (key (dv b)) ⟨v,w,a,b,by simp only[go_sem,ya,ao,aj hv.pu,aj hw.pu]<;>rfl,hv,hw,ha,na,hb,nb,la,lb,rfl,rfl⟩
  refine⟨x,lx,?_,hx,dx,nx,vx⟩;simp only[go_sem,ao,h2,hx.eG,aj hx.pu]
 .rintro k st ⟨x,y,lx,ly,rfl,hx,hy,dx,nx,dy,ny,llx,lly,rfl,hg⟩;by_cases h0:ly=[]
  .right
   subst h0;simp only[go_sem,ya,NJ,hy.len,yI,show ¬(0:Int)<((0:Nat):Int) by lia];refine⟨_,_,rfl,by simp,_,_,rfl,rfl,x,lx,rfl,hx,dx,nx,?_⟩;rw[<-hg];simp[dv]
  .left
   have hp:0<dv ly:=by
    rcases xE (dv ly) with e | e
    .exact absurd (aiq ny dy e) h0
    .exact e
   have hl:0<ly.length:=uZ.2 h0;have⟨q,r,lq,lr,e1,hq,hr,dq,nq,dr,nr,vq,vr⟩:=ale Po oz sL zZ db AU hx hy dx dy nx ny llx lly hp;have aY:dv lr<dv ly:=by rw[vr];exact xV _ hp
   have hB:=mK dy;simp only[go_sem,ya,NJ,hx.af,hy.len,hy.af,show (0:Int)<ly.length by lia,e1,hq.cd,hr.cd];refine⟨_,dv lr,rfl,aY,y,r,ly,lr,?_,hy,hr,dy,ny,dr,nr,by lia,xB (lU dr nr (Nat.lt_trans aY hB)) lly,rfl,?_⟩
   .simp only [go_sem,ya,ao,aj hy.pu,aj hr.pu]<;>rfl
   .rw [<-hg,vr,tN (dv ly),<-Nat.gcd_rec,tN]
end
def aAz(Dh:Has P L 290 Kc){neg:Bool}(hN:(ay N).length<=180000000000):
  cL P L [0,2,3,4] CU (fun k s=>∃(i m:Nat) (out:List Int),m=k/\out.length=i/\dg out/\dv out+1000000000^i*m=N/\(ay m).length+9*i<=180000000000/\
    ((i=0/\s=⟨[(0,.str (ay m)),(2,.ptr 0 0),(3,.bool neg),(4,.ae)],[(0,.cells ycO ycO ycO 2 [.bool ycP,.ae])],1,0⟩)\/
    (0<i/\s=⟨[(0,.str (ay m)),(2,.ptr 0 0),(3,.bool neg),(4,.av 1 0 i)],[(1,.cells ycO ycO ycP 1 (out.map aa)),(0,.cells ycO ycO ycO 2 [.bool ycP,.ae])],2,0⟩))) (fun ex s'=>∃tm i m out,ex=.exit 0/\m<1000000000/\out.length=i/\dg out/\dv out+1000000000^i*m=N/\i<20000000000/\ab tm 0=.str (ay m)/\ab tm 2=.ptr 0 0/\ab tm 3=.bool neg/\
    ((i=0/\ab tm 4=.ae/\s'=⟨tm,[(0,.cells ycO ycO ycO 2 [.bool ycP,.ae])],1,0⟩)\/(0<i/\ab tm 4=.av 1 0 i/\s'=⟨tm,[(1,.cells ycO ycO ycP 1 (out.map aa)),(0,.cells ycO ycO ycO 2 [.bool ycP,.ae])],2,0⟩))):=by
 apply cP;rintro k s ⟨i,m,out,rfl,hlen,hd,aR,hl,hs⟩;by_cases hm:1000000000<=m
 .left
  obtain⟨q,hq⟩:∃q,q=m/1000000000:=⟨_,rfl⟩;obtain⟨r,hr⟩:∃r,r=m%1000000000:=⟨_,rfl⟩;have ki:=auJ hm;rw[<-hq,<-hr] at ki;have fR:=Yr 9 r;have hqp:=Bv q;have hlm:(ay m).length=(ay q).length+9:=by rw[ki,yE,fR]
  have c1:jQ (ay m) (Ix (ay q).length) (Ix (ay m).length)=Ix (.str (j9 9 r)):=by
   rw[oS (by lia) (ym _),xH,ki,um]
  have c2:jQ (ay m) (Ix 0) (Ix (ay q).length)=Ix (.str (ay q)):=by
   rw[oS (by lia) (by lia),yh,ki,tg]
  have e1:=O9 Dh (s:=j9 9 r) (v:=r) (by lia) (by rw[ahj 9 r 0 (by lia)];simp)
  unfold ah at e1;have AS:dg (out++[(r:Int)]):=jo.2 ⟨hd,nY.2 (by lia)⟩;have TM:dv (out++[(r:Int)])+1000000000^(i+1)*q=N:=by
   rw[pM,hlen,<-aR,xJ];have e:=uy m 1000000000;rw[<-hr,<-hq] at e;rw[<-e];simp only[dv,xx,xP,xg,xO,xD]
   lia
  have Uj:((ay m).length:Int)-9=((ay q).length:Int):=by lia
  rcases hs with ⟨h0,rfl⟩ | ⟨h0,rfl⟩
  .subst h0;have lh:out=[]:=yu hlen;subst lh
   simp only[go_sem,ya,yb,yV,yA,yi,yf,CU,show (9:Int)<((ay m).length:Int) by lia,Uj,wrapN (n:=(ay q).length) (by lia),fD,gh,ez,c1,c2,e1,eT];refine⟨_,q,rfl,by lia,1,q,[]++[(r:Int)],rfl,rfl,AS,TM,by lia,.inr ⟨by lia,?_⟩⟩;rfl
  .simp only [go_sem,ya,yb,yi,yf,CU,show (9:Int)<((ay m).length:Int) by lia,Uj,wrapN (n:=(ay q).length) (by lia),fD,gh,ez,c1,e1]
   rw[dZ (ex:=ycP) (pu:=ycO) (cs:=out.map aa) rfl (by rw[yg,hlen,yf]) (by lia) (by lia) (by decide) rfl]
   simp only[go_sem,ya,yb,fD,gh,ez,Uj,wrapN (n:=(ay q).length) (by lia),c2];refine⟨_,q,rfl,by lia,i+1,q,out++[(r:Int)],rfl,by simp[hlen],AS,TM,by lia,.inr ⟨by lia,?_⟩⟩;rw[yX];simp only[go_sem,ya,yb,ao]<;>rfl
 .right
  have h9:(ay m).length<=9:=Bu (k:=8) (by lia);have hp0:=Bv m;rcases hs with ⟨h0,rfl⟩ | ⟨h0,rfl⟩
  .simp only [go_sem,CU,show ¬(9:Int)<((ay m).length:Int) by lia];exact⟨_,_,rfl,by simp,_,i,m,out,rfl,by lia,hlen,hd,aR,by lia,rfl,rfl,rfl,.inl ⟨h0,rfl,rfl⟩⟩
  .simp only [go_sem,CU,show ¬(9:Int)<((ay m).length:Int) by lia];exact⟨_,_,rfl,by simp,_,i,m,out,rfl,by lia,hlen,hd,aR,by lia,rfl,rfl,rfl,.inr ⟨h0,rfl,rfl⟩⟩
def amX(h:Rb P L){n:Int}(hn:(ay n.natAbs).length<=180000000000):∃r,ah P L 288 [.str (aU n)] r/\mS r n:=by
 obtain⟨u,hu⟩:∃u,u=ay n.natAbs:=⟨_,rfl⟩;have⟨b,t,hb,qK,Aj⟩:=IP n.natAbs;have hs:aU n=(if n<0 then [45] else [])++u:=by rw[hu,rZ]
 have FD:0<u.length:=by rw[hu];exact Bv _
 have A7:u[0]=b:=by
  have:u=b::t:=by rw[hu,hb]
  simp[this]
 have key:∀(s:St),bW [0,2,3,4] s=⟨[(0,.str u),(2,.ptr 0 0),(3,.bool (decide (n<0))),(4,.ae)],[(0,.cells ycO ycO ycO 2 [.bool ycP,.ae])],1,0⟩->
   ∃ex s',D P L (.loop [0,2,3,4] CU) s=Ix (ex,s')/\∃tm i m out,ex=.exit 0/\m<1000000000/\out.length=i/\dg out/\dv out+1000000000^i*m=n.natAbs/\i<20000000000/\ab tm 0=.str (ay m)/\ab tm 2=.ptr 0 0/\ab tm 3=.bool (decide (n<0))/\
    ((i=0/\ab tm 4=.ae/\s'=⟨tm,[(0,.cells ycO ycO ycO 2 [.bool ycP,.ae])],1,0⟩)\/(0<i/\ab tm 4=.av 1 0 i/\s'=⟨tm,[(1,.cells ycO ycO ycP 1 (out.map aa)),(0,.cells ycO ycO ycO 2 [.bool ycP,.ae])],2,0⟩)):=fun s hc=>
  aAz (P:=P) (L:=L) h.Dh (neg:=decide (n<0)) hn n.natAbs s ⟨0,n.natAbs,[],rfl,rfl,rfl,by simp[dv],by lia,.inl ⟨rfl,by rw[hc,hu]⟩⟩
 have fin:∀(i m:Nat) (out:List Int),m<1000000000->out.length=i->dg out->dv out+1000000000^i*m=n.natAbs->i<20000000000->∃w l,bM P L (D P L) 294 [.bool (decide (n<0)),.aF ycP (i+1) ((out++[(m:Int)]).map aa)]=Ix (.agg [.bool (decide (n<0)),w])/\bl w l/\dg l/\nz l/\dv l=n.natAbs:=fun i m out h1 h2 h3 h4 h5=>by
  have hv:=fZ ycP (out++[(m:Int)]);have hd:dg (out++[(m:Int)]):=jo.2 ⟨h3,nY.2 (by lia)⟩;have aR:dv (out++[(m:Int)])=n.natAbs:=by rw[pM,h2];simp[dv];exact h4
  have⟨r,e,hr⟩:=AR h.kj h.db (decide (n<0)) hv hd (by simp;lia)
  have Be:cJ (decide (n<0)) (dv (out++[(m:Int)]))=n:=by
   rw[aR];unfold cJ;by_cases h0:n<0
   .simp only [h0,yo,xL];lia
   .simp only [h0,yp,yH,xr];lia
  rw[Be] at hr;obtain⟨w,l,rfl,hw,fw,gA,dC⟩:=hr;simp only[yE,List.length_singleton,h2] at e;exact⟨w,l,e,hw,fw,gA,dC⟩
 unfold ah;rw[hs];by_cases h0:n<0
 .rw [yK h0,aB h.amR];have oG:jQ (45::u) (Ix 1) (Ix (u.length+1))=Ix (.str u):=by rw[oS (s:=45::u) (l:=1) (h:=u.length+1) (by lia) (by simp)];simp
  simp only[h0,yo] at key fin ⊢;simp only[go_sem,ya,yb,UP,aG,show (0:Int)<((u.length+1:Nat):Int) by lia,xC,xy,Ht,yo,fD,gh,ez,oG];generalize hq:D P L (.loop _ CU) _=q;obtain⟨ex,s,rfl,tm,i,m,out,rfl,hm,hlen,hd,aR,hi,t0,t2,t3,C6⟩:=bg hq key (by simp only[go_sem,ya,yb,ao]<;>rfl)
  have e1:=O9 h.Dh (s:=ay m) (v:=m) (by have:=Bu (k:=8) (n:=m) (by lia);lia) (Bs m)
  have bD:i<20000000000:=hi;have⟨w,l,e2,hw,fw,gA,dC⟩:=fin i m out hm hlen hd aR bD;refine⟨_,?_,w,l,rfl,hw,fw,gA,dC⟩;unfold ah at e1;rcases C6 with ⟨sZ,t4,rfl⟩ | ⟨sZ,t4,rfl⟩
  .subst sZ;have lh:out=[]:=yu hlen;subst lh;have iz:∀hp:Hp,nG 0 1 (Ix (ycP,1,[AV.int .i64 (m:Int)],hp))=Ix (.aF ycP 1 [AV.int .i64 (m:Int)],hp):=fun hp=>rfl
   simp only[xy,yS,wu,yd] at e2;simp only[go_sem,ya,yb,yV,yA,yi,yf,ao,t0,t2,t3,t4,e1,eT,iz,e2,bf,hw.pu,hw.one,gQ];rcases hw with ⟨rfl,_⟩ | ⟨e,rfl⟩<;>simp only[h0,yo]<;>rfl
  .simp only [go_sem,ya,yb,yi,yf,ao,t0,t2,t3,t4,e1]
   rw[dZ (ex:=ycP) (pu:=ycO) (cs:=out.map aa) rfl (by rw[yg,hlen,yf]) (by lia) (by lia) (by decide) rfl];have iz:∀hp:Hp,nG 0 (i+1) (Ix (ycP,1,out.map aa++[AV.int .i64 (m:Int)],hp))=Ix (.aF ycP (i+1) (out.map aa++[AV.int .i64 (m:Int)]),hp):=fun hp=>oR ycP (by simp[hlen]) (by decide)
   simp only[yX,yS,wu] at e2;simp only[go_sem,ya,yb,iz,e2,bf,hw.pu,hw.one,gQ,vV];rcases hw with ⟨rfl,_⟩ | ⟨e,rfl⟩<;>simp only[h0,yo]<;>rfl
 .rw [yx h0,aB h.amR,xy];simp only[h0,yp] at key fin ⊢;simp only[go_sem,ya,yb,UP,aG,show (0:Int)<(u.length:Int) by lia,AB FD,A7,show ¬((b:Nat):Int)=45 by lia];generalize hq:D P L (.loop _ CU) _=q;obtain⟨ex,s,rfl,tm,i,m,out,rfl,hm,hlen,hd,aR,hi,t0,t2,t3,C6⟩:=bg hq key (by simp only[go_sem,ya,yb,ao]<;>rfl)
  have e1:=O9 h.Dh (s:=ay m) (v:=m) (by have:=Bu (k:=8) (n:=m) (by lia);lia) (Bs m)
  have bD:i<20000000000:=hi;have⟨w,l,e2,hw,fw,gA,dC⟩:=fin i m out hm hlen hd aR bD;refine⟨_,?_,w,l,rfl,hw,fw,gA,dC⟩;rcases C6 with ⟨sZ,t4,rfl⟩ | ⟨sZ,t4,rfl⟩
  .subst sZ;have lh:out=[]:=yu hlen;subst lh;have iz:∀hp:Hp,nG 0 1 (Ix (ycP,1,[AV.int .i64 (m:Int)],hp))=Ix (.aF ycP 1 [AV.int .i64 (m:Int)],hp):=fun hp=>rfl
   simp only[xy,yS,wu,yd] at e2;simp only[go_sem,ya,yb,yV,yA,yi,yf,ao,t0,t2,t3,t4,e1,eT,iz,e2,bf,hw.pu,hw.one,gQ];rcases hw with ⟨rfl,_⟩ | ⟨e,rfl⟩<;>simp only[h0,yp]<;>rfl
  .simp only [go_sem,ya,yb,yi,yf,ao,t0,t2,t3,t4,e1]
   rw[dZ (ex:=ycP) (pu:=ycO) (cs:=out.map aa) rfl (by rw[yg,hlen,yf]) (by lia) (by lia) (by decide) rfl];have iz:∀hp:Hp,nG 0 (i+1) (Ix (ycP,1,out.map aa++[AV.int .i64 (m:Int)],hp))=Ix (.aF ycP (i+1) (out.map aa++[AV.int .i64 (m:Int)]),hp):=fun hp=>oR ycP (by simp[hlen]) (by decide)
   simp only[yX,yS,wu] at e2;simp only[go_sem,ya,yb,iz,e2,bf,hw.pu,hw.one,gQ,vV];rcases hw with ⟨rfl,_⟩ | ⟨e,rfl⟩<;>simp only[h0,yp]<;>rfl
def MH(n:Int)(r:List Nat):bY (aU n++r)=(aU n).length+bY r:=by
 rw[<-rZ]
 split
 .simp only [xC,xy,bY,yB];rw[yx (by decide),MF r (CA _)]
  lia
 .rw [xy];exact MF r (CA _)
def Yx:∀{a b:List Nat},cU a b=ycO->a=b
 | [],[],_=>rfl
 | [],_::_,h=>by simp[cU] at h
 | _::_,[],h=>by simp[cU] at h
 | x::a,y::b,h=>by
  simp only[cU,yj] at h;rw[yz h.1,Yx h.2]
def alg{n:Int}(h:n≠0):cU (TT n d) [48]=ycP:=by
 cases hb:cU (TT n d) [48] with
 | false=>rfl
 | true=>
  have e:=Yx hb;unfold TT at e;by_cases h0:n<0
  .rw [mZ h0] at e;simp at e
  .obtain ⟨m,rfl⟩:∃m:Nat,n=m:=⟨n.toNat,by lia⟩;rw[nS] at e;have⟨b,r,dd,_,_⟩:=IP m;rw[dd] at e;simp only[xC,tP,List.append_eq_nil_iff] at e;have hv:=Bs m;rw[dd,e.1,e.2.1] at hv
   have:(Ix 0:Option Nat)=Ix m:=hv
   grind
def aAA(h:Rb P L):∃r,ah P L 281 [aa 1] r/\mS r 1:=by
 have⟨r,e,hr⟩:=AR h.kj h.db ycP (fZ ycP [(1:Int)]) (by decide) (by decide);obtain⟨w,l,rfl,hw,hd,hz,hv⟩:=hr;refine⟨_,?_,w,l,rfl,hw,hd,hz,hv⟩;simp only[yS,wu,yB,yI,yd] at e;have iz:∀hp:Hp,nG 0 1 (Ix (ycP,1,[AV.int .i64 1],hp))=Ix (.aF ycP 1 [AV.int .i64 1],hp):=fun hp=>rfl
 unfold ah at e ⊢;rw[aB h.amQ];simp only[go_sem,ya,yb,yV,yA,yi,yf,UM,aG,Int.reduceLT,yp,S7,ao,BD,Int.reduceEq,yQ,yM,yo,iD _ _ _ (show (1000000000:Int)≠0 by decide),gN _ _ _ (show (1000000000:Int)≠0 by decide),show Int.tmod 1 1000000000=1 from rfl,show Int.tdiv 1 1000000000=0 from rfl,show IntKind.wrap .i64 0=0 from rfl,eT,iz,e,hw.pu,hw.one,bf,gQ];rcases hw with ⟨rfl,_⟩ | ⟨e,rfl⟩<;>rfl
def amY(h:Rb P L){n:Int}(hn:(ay n.natAbs).length<=144000000000)(hd:(ay d).length<=144000000000):
  ∃x y,ah P L 274 [.str (TT n d)] (.ax [x,y])/\mS x n/\mS y d:=by
 have⟨x,e1,hx⟩:=amX h (n:=n) (by lia);have hli:(aU n).length<=(ay n.natAbs).length+1:=by rw[<-rZ];split<;>simp
 by_cases h1:d=1
 .subst h1;have⟨y,e2,hy⟩:=aAA h;have hT:TT n 1=aU n:=by unfold TT;simp
  have hs:=MH n [];rw[wh] at hs;have e3:=Ki h.E8 (s:=aU n) (by lia);rw[hs] at e3;refine⟨x,y,?_,hx,hy⟩;obtain⟨xw,xl,rfl,fA,_,_,_⟩:=hx;obtain⟨yw,yl,rfl,gE,_,_,_⟩:=hy;rw[hT];unfold ah at e1 e2 e3 ⊢;rw[aB h.amO];simp only[go_sem,ya,yb,UJ,aG,e3,bY,xg,yo,e1,e2,bf,fA.pu,fA.one,gE.pu,gE.one,gQ];rcases fA with ⟨rfl,_⟩ | ⟨e,rfl⟩<;>rcases gE with ⟨rfl,_⟩ | ⟨e',rfl⟩<;>rfl
 .have ⟨y,e2,hy⟩:=amX h (n:=(d:Int)) (by simp;lia)
  rw[nS] at e2;obtain⟨s,mT⟩:∃s,s=TT n d:=⟨_,rfl⟩;have hT:s=aU n++47::ay d:=by rw[mT];unfold TT;rw[yx h1]
  have hs:bY s=(aU n).length:=by rw[hT,MH];rfl
  have hlen:s.length=(aU n).length+(ay d).length+1:=by rw[hT];simp;lia
  have e3:=Ki h.E8 (s:=s) (by lia);rw[hs] at e3;have c1:jQ s (Ix 0) (Ix (aU n).length)=Ix (.str (aU n)):=by
   rw[oS (by lia) (by lia),yh,hT,tg]
  have c2:jQ s (Ix ((aU n).length+1)) (Ix s.length)=Ix (.str (ay d)):=by
   rw[oS (by lia) (ym _),xH,hT,show aU n++47::ay d=(aU n++[47])++ay d by simp,show (aU n).length+1=(aU n++[47]).length by simp,um]
  refine⟨x,y,?_,hx,hy⟩;obtain⟨xw,xl,rfl,fA,_,_,_⟩:=hx;obtain⟨yw,yl,rfl,gE,_,_,_⟩:=hy;rw[<-mT];unfold ah at e1 e2 e3 ⊢;rw[aB h.amO]
  simp only[go_sem,ya,yb,UJ,aG,e3,show ¬((aU n).length:Int)=(s.length:Int) by lia,fD,gh,ez,c1,wrapN (n:=(aU n).length+1) (by lia),show ((aU n).length:Int)+1=(((aU n).length+1:Nat):Int) from rfl,c2,e1,e2,bf,fA.pu,fA.one,gE.pu,gE.one,gQ];rcases fA with ⟨rfl,_⟩ | ⟨e,rfl⟩<;>rcases gE with ⟨rfl,_⟩ | ⟨e',rfl⟩<;>rfl
section
variable {d n:Int}{a b:List Int}
def Td{d:Nat}(h:n<0):TT n d=45::TT (-n) d:=by
 have e:aU (-n)=ay n.natAbs:=by
  rw[<-rZ,yx (show ¬-n<0 by lia),xy,show (-n).natAbs=n.natAbs by lia]
 unfold TT;rw[mZ h,e];rfl
def axA{d:Nat}(h:¬n<0):∃b u,TT n d=b::u/\48<=b:=by
 have⟨b,r,hb,h1,_⟩:=IP n.natAbs;refine⟨b,r++(if d=1 then [] else 47::ay d),?_,h1⟩;unfold TT;rw[<-rZ,yx h,xy,hb];rfl
def gH(a b:AV)(r:List AV):gJ 2 ycO (a::b::r)=Ix (.agg [a,b]):=rfl
def axB(k:Nat):2^k<=1000000000^k:=vR (by decide) k
def Bd.r{k:Nat}{z:Int}(h:Bd k z):z.natAbs<1000000000^k:=yT h (axB k)
def Ow(r:Rat):RT r=TT r.num r.den:=rfl
def aiI(hd:0<d):RT (wW n d)=zV n d:=by
 have⟨h1,h2⟩:=MB (a:=n) hd;rw[axd hd,Ow,h1]
 congr 1
 exact yac (show ((wW n d).den:Int)=((dI n d).toNat:Int) by rw[h2];have:=M3 (a:=n) hd;unfold dI at this ⊢;lia)
structure Rm(P:aJ)(L:Lib):Prop extends Rb P L where
 aE2:Has P L 263 dN
 Vi:Has P L 273 Hl
 aE3:Has P L 284 aaZ
 aE4:Has P L 285 UN
 aE5:Has P L 286 UO
 Kp:Has P L 287 OV
 AU:Has P L 301 Dg
structure Rp(P:aJ)(L:Lib):Prop extends Ras P L,Rm P L
structure Rn(P:aJ)(L:Lib):Prop extends Ra P L,Rp P L
def alh(h:Rm P L){w:AV}(hv:bl v a)(hw:bl w b)(ha:dg a)(hb:dg b)(na:nz a)(nb:nz b)(la:a.length<=8000000000)(lb:b.length<=8000000000)(h0:0<dv b):
  ∃q r lq lr,ah P L 289 [v,w] (.ax [q,r])/\bl q lq/\bl r lr/\dg lq/\nz lq/\dg lr/\nz lr/\dv lq=dv a/dv b/\dv lr=dv a%dv b:=
 ale h.Po h.oz h.sL h.zZ h.db h.AU hv hw ha hb na nb la lb h0
def aAB(h:Rm P L){x y:AV}(hK:K<=8000000000)(hx:bl x a)(ha:dg a)(na:nz a)(va:dv a=n.natAbs)(hy:bl y b)(hb:dg b)(nb:nz b)(vb:dv b=d.natAbs)(kn:Bd K n)(kd:Bd K d)(hd:0<d)(t2:ab tm 2=.ptr 0 0)(t3:ab tm 3=.ptr 1 0):
  fp [.t 4] (D P L (aA (aA sE.body)) ⟨tm,[(1,.cells ycO ycO ycO 2 [.bool (decide (d<0)),y]),(0,.cells ycO ycO ycO 2 [.bool (decide (n<0)),x])],2,0⟩)=Ix (.str (RT (wW n d))):=by
 rw[aiI hd];have la:=xB (lU ha na (by rw[va];exact kn.r)) hK
 have lb:=xB (lU hb nb (by rw[vb];exact kd.r)) hK
 have⟨g,lg,e1,hg,dg',ng,vg⟩:=alf h.amP h.Po h.oz h.sL h.zZ h.db h.AU hx hy ha hb na nb la lb;rw[va,vb,show wX n.natAbs d.natAbs=vE n d from rfl] at vg;have PV:=Nk (a:=n) hd;have aE6:vE n d<=d.natAbs:=Int.gcd_le_natAbs_right n (by lia);have lg1:lg.length<=8000000000:=xB (lU dg' ng (by rw[vg];exact wM aE6 kd.r)) hK
 have⟨p,p',lp,lp',e2,hp,aq,dp,np,dp',np',vp,vp'⟩:=alh h hx hg ha dg' na ng la lg1 (by lia);have⟨q,q',lq,lq',e3,hq,bO,dq,nq,dq',nq',vq,vq'⟩:=alh h hy hg hb dg' nb ng lb lg1 (by lia);rw[va,vg] at vp;rw[vb,vg] at vq;have hrn:(dE n d).natAbs=n.natAbs/vE n d:=by unfold dE;rw[uY (Int.gcd_dvd_left n d)];rfl
 have pD:(dI n d).natAbs=d.natAbs/vE n d:=by unfold dI;rw[uY (Int.gcd_dvd_right n d)];rfl
 have hdp:=M3 (a:=n) hd;rw[<-hrn] at vp;rw[<-pD] at vq;have aJK:=ajy n d;have Be:cJ (decide (n<0)) (dv lp)=dE n d:=by
  rw[vp];unfold cJ;by_cases h0:n<0
  .have:¬0<=dE n d:=fun h1=>by have:=tk (tr PV) h1;lia
   simp only[h0,yo,xL];lia
  .have:¬dE n d<0:=fun h1=>by have:=Int.mul_neg_of_pos_of_neg PV h1;lia
   simp only[h0,yp,yH,xr];lia
 have kn':Bd K (dE n d):=kn.le (Yp n d);have kd':Bd K (dI n d):=kd.le (Yq n d);have lp1:lp.length<=8000000000:=xB (lU dp np (by rw[vp];exact kn'.r)) hK
 have Qp:lq.length<=8000000000:=xB (lU dq nq (by rw[vq];exact kd'.r)) hK
 have⟨s,e4,hs⟩:=AR h.kj h.db (decide (n<0)) hp dp (by lia);rw[Be] at hs;have⟨e5,l5⟩:=abO (K:=K) h.abP h.zW (by lia) hs kn'.r;have⟨u,e6,hu⟩:=AR h.kj h.db ycP hq dq (by lia);have DJ:cJ ycP (dv lq)=dI n d:=by rw[vq];unfold cJ;simp only[yH,xr];lia
 rw[DJ] at hu;have⟨e7,l7⟩:=abO (K:=K) h.abP h.zW (by lia) hu kd'.r;obtain⟨sw,sl,rfl,nO,_,_,_⟩:=hs;obtain⟨uw,ul,rfl,huw,_,_,_⟩:=hu;have aJv:0<lq.length:=by
  rcases xE lq.length with e | e
  .rw [yu e] at vq;simp[dv] at vq;lia
  .exact e
 by_cases WK:lq.length=1
 .obtain ⟨z,rfl⟩:∃z,lq=[z]:=by
   cases lq with
   | nil=>simp at WK
   | cons z r=>cases r with
    | nil=>exact⟨z,rfl⟩
    | cons y r=>simp at WK
  have Qy:z=dI n d:=by simp[dv] at vq;lia
  have e8:=hq.aT (i:=0) (by simp);simp only[wJ] at e8;by_cases h1:dI n d=1
  .have hT:zV n d=aU (dE n d):=by unfold zV;rw[yK h1]
   rw[hT];simp only[go_sem,ya,sE,aA,t2,t3,hx.af,hy.af,aZ,yd,cD,show ¬d<0 by lia,yp,e1,hg.af,hg.shut,e2,hp.af,hp.cd,aq.cd,e3,hq.len,hq.cd,bO.cd,e4,nO.af,a7,bf,e5,yB,yI,show ((1:Nat):Int)=(1:Int) from rfl,yo,e8,Qy,h1]
  .have hT:zV n d=(aU (dE n d)++[47])++aU (dI n d):=by unfold zV;rw[yx h1]
   rw[hT]
   simp only[go_sem,ya,sE,aA,t2,t3,hx.af,hy.af,aZ,yd,cD,show ¬d<0 by lia,yp,e1,hg.af,hg.shut,e2,hp.af,hp.cd,aq.cd,e3,hq.len,hq.af,hq.cd,bO.cd,e4,nO.af,a7,bf,e5,yB,yI,show ((1:Nat):Int)=(1:Int) from rfl,yo,e8,Qy,h1,iY (a:=aU (dE n d)) (b:=[47]) (by simp;lia),e6,huw.af,e7,iY (a:=aU (dE n d)++[47]) (b:=aU (dI n d)) (by simp;lia)]
 .have h1:¬dI n d=1:=fun h1=>WK (by
   have h2:lq.length<=1:=aiH dq nq (by rw[vq,h1];decide)
   lia)
  have hT:zV n d=(aU (dE n d)++[47])++aU (dI n d):=by unfold zV;rw[yx h1]
  rw[hT]
  simp only[go_sem,ya,sE,aA,t2,t3,hx.af,hy.af,aZ,yd,cD,show ¬d<0 by lia,yp,e1,hg.af,hg.shut,e2,hp.af,hp.cd,aq.cd,e3,hq.len,hq.af,hq.cd,bO.cd,e4,nO.af,a7,bf,e5,show ¬(lq.length:Int)=1 by lia,iY (a:=aU (dE n d)) (b:=[47]) (by simp;lia),e6,huw.af,e7,iY (a:=aU (dE n d)++[47]) (b:=aU (dI n d)) (by simp;lia)]
def aqt(n d:Int):wW (-n) (-d)=wW n d:=by rw[Rat.divInt_neg',yak]
def ali(h:Rm P L){w:AV}(hK:K<=8000000000)(hv:mS v n)(hw:mS w d)(kn:Bd K n)(kd:Bd K d)(hd:d≠0):ah P L 280 [v,w] (.str (RT (wW n d))):=by
 have fin:∀{x y:AV} {a b:List Int} {n' d':Int},bl x a->dg a->nz a->dv a=n'.natAbs->bl y b->dg b->nz b->dv b=d'.natAbs->Bd K n'->Bd K d'->0<d'->wW n' d'=wW n d->∀tm,ab tm 2=.ptr 0 0->ab tm 3=.ptr 1 0->
   D P L (.seq (aX sE.body) (aX (aA sE.body))) ⟨[(0,v),(1,w)],[],0,0⟩=Ix (.normal,⟨tm,[(1,.cells ycO ycO ycO 2 [.bool (decide (d'<0)),y]),(0,.cells ycO ycO ycO 2 [.bool (decide (n'<0)),x])],2,0⟩)->ah P L 280 [v,w] (.str (RT (wW n d))):=fun {x y a b n' d'} hx ha na va hy hb nb vb kn kd hd hq tm t2 t3 e=>by
  unfold ah;rw[aB h.aEV];show fp [.t 4] (D P L (.seq (aX sE.body) (.seq (aX (aA sE.body)) (aA (aA sE.body)))) ⟨[(0,v),(1,w)],[],0,0⟩)=_
  rw[Gh,e,il,<-hq];exact aAB h hK hx ha na va hy hb nb vb kn kd hd t2 t3
 have gD:=hv;have hw':=hw;obtain⟨x,a,rfl,hx,ha,na,va⟩:=hv;obtain⟨y,b,rfl,hy,hb,nb,vb⟩:=hw;by_cases h0:d<0
 .have ⟨r,e1,hr⟩:=amp (K:=K) h.amS h.kj h.db (by lia) gD kn.r;have⟨s,e2,hs⟩:=amp (K:=K) h.amS h.kj h.db (by lia) hw' kd.r;obtain⟨x',a',rfl,zd,HO,na',va'⟩:=hr;obtain⟨y',b',rfl,mq,dd,nb',vb'⟩:=hs;simp only[h0,yo] at e2
  refine fin zd HO na' va' mq dd nb' vb' kn.neg kd.neg (by lia) (aqt n d) _ ?_ ?_ (by
   simp only[go_sem,ya,yb,sE,aX,aA,aG,hx.pu,hx.af,hx.one,hy.pu,hy.af,hy.one,zd.pu,zd.one,mq.pu,mq.one,aZ,yd,h0,yo,gH,a7,e1,e2,bf,gQ]<;>rfl)<;>simp only[go_sem,ya]
 .refine fin hx ha na va hy hb nb vb kn kd (by lia) rfl _ ?_ ?_ (by simp only[go_sem,ya,yb,sE,aX,aA,aG,hx.pu,hx.one,hy.pu,hy.one,aZ,yd,h0,yp]<;>rfl)<;>simp only[go_sem,ya]
end
section
variable {n:Int}{K:Nat}{a:Rat}
def aCt(z:Int)(m:Nat)(h:z.natAbs=m):(z.tdiv 1000000000).natAbs=m/1000000000/\(if z.tmod 1000000000<0 then 0-z.tmod 1000000000 else z.tmod 1000000000)=((m%1000000000:Nat):Int)/\(z<0->z.tdiv 1000000000<=0)/\(0<=z->0<=z.tdiv 1000000000):=by
 rcases Int.lt_or_le z 0 with h0 | h0
 .obtain ⟨n,rfl⟩:∃n:Nat,z= -(n:Int):=⟨z.natAbs,by lia⟩;rw[Int.neg_tdiv,Int.neg_tmod,xR (by lia),xF (by lia)]
  grind
 .grind
def aAC{neg:Bool}(hN:N<=9223372036854775808):
  cL P L [0,2,3,4] BD (fun k s=>∃(i:Nat) (z:Int) (out:List Int),z.natAbs=k/\out.length=i/\dg out/\dv out+1000000000^i*z.natAbs=N/\(neg=ycO->z<=0)/\(neg=ycP->0<=z)/\i<=3/\
    ((i=0/\s=⟨[(0,aa z),(2,.ptr 0 0),(3,.ae),(4,.bool neg)],[(0,.cells ycO ycO ycO 2 [.bool ycP,.ae])],1,0⟩)\/
    (0<i/\s=⟨[(0,aa z),(2,.ptr 0 0),(3,.av 1 0 i),(4,.bool neg)],[(1,.cells ycO ycO ycP 1 (out.map aa)),(0,.cells ycO ycO ycO 2 [.bool ycP,.ae])],2,0⟩))) (fun ex s'=>∃tm i out,ex=.exit 0/\out.length=i/\i<=3/\dg out/\dv out=N/\ab tm 2=.ptr 0 0/\ab tm 4=.bool neg/\
    ((i=0/\ab tm 3=.ae/\s'=⟨tm,[(0,.cells ycO ycO ycO 2 [.bool ycP,.ae])],1,0⟩)\/(0<i/\ab tm 3=.av 1 0 i/\s'=⟨tm,[(1,.cells ycO ycO ycP 1 (out.map aa)),(0,.cells ycO ycO ycO 2 [.bool ycP,.ae])],2,0⟩))):=by
 apply cP;rintro k s ⟨i,z,out,rfl,hlen,hd,aR,nJ,qJ,hi3,hs⟩;by_cases hz:z=0
 .right
  subst hz;have hv:dv out=N:=by simpa using aR
  rcases hs with ⟨h0,rfl⟩ | ⟨h0,rfl⟩
  .simp only [go_sem,BD,yo,yM];exact⟨_,_,rfl,by simp,_,i,out,rfl,hlen,hi3,hd,hv,rfl,rfl,.inl ⟨h0,rfl,rfl⟩⟩
  .simp only [go_sem,BD,yo,yM];exact⟨_,_,rfl,by simp,_,i,out,rfl,hlen,hi3,hd,hv,rfl,rfl,.inr ⟨h0,rfl,rfl⟩⟩
 .left
  obtain⟨m,hm⟩:∃m,z.natAbs=m:=⟨_,rfl⟩;have WG:0<m:=by lia
  rw[hm] at aR;have hi2:i<3:=by
   rcases Nat.lt_or_ge i 3 with h | h
   .exact h
   .have e3:i=3:=by lia
    subst e3
    have:=yZ (1000000000^3) WG
    lia
  have hmN:m<=9223372036854775808:=by
   have:=Nat.le_mul_of_pos_left m (ybL (n:=i) (show 0<1000000000 by decide))
   lia
  have⟨d1,d2,d3,d4⟩:=aCt z m hm;have gV:=uy m 1000000000;have AS:dg (out++[((m%1000000000:Nat):Int)]):=jo.2 ⟨hd,nY.2 (by lia)⟩;have TM:dv (out++[((m%1000000000:Nat):Int)])+1000000000^(i+1)*(m/1000000000)=N:=by
   rw[pM,hlen,<-aR,xJ,xD];have e:1000000000^i*m=1000000000^i*(m%1000000000)+1000000000^i*(1000000000*(m/1000000000)):=by rw[<-xO,gV]
   rw[e];simp only[dv,xx,xP,xg]
   lia
  have oL:IntKind.wrap .i64 (z.tdiv 1000000000)=z.tdiv 1000000000:=wrap64 (by lia) (by lia);have kF: -9223372036854775808<=z.tmod 1000000000/\z.tmod 1000000000<1000000000:=by
   have h1:(z.tmod 1000000000).natAbs<1000000000:=by
    split at d2<;>lia
   lia
  have C8:(neg=ycO->z.tdiv 1000000000<=0)/\(neg=ycP->0<=z.tdiv 1000000000):=⟨fun h=>d3 (by have:=nJ h;lia),fun h=>d4 (qJ h)⟩
  have aY:(z.tdiv 1000000000).natAbs<m:=by rw[d1];lia
  obtain⟨z',dj⟩:∃z',z.tdiv 1000000000=z':=⟨_,rfl⟩;rw[dj] at d1 d3 d4 oL C8 aY;have dC:dv (out++[((m%1000000000:Nat):Int)])+1000000000^(i+1)*z'.natAbs=N:=by rw[d1];exact TM
  generalize m%1000000000=r at*
  by_cases ic:z.tmod 1000000000<0
  .rw [yK ic] at d2;rcases hs with ⟨h0,rfl⟩ | ⟨h0,rfl⟩
   .subst h0;have lh:out=[]:=yu hlen;subst lh
    simp only[go_sem,ya,yb,yV,yA,yi,yf,BD,yp,hz,yQ,iD _ _ _ (show (1000000000:Int)≠0 by decide),gN _ _ _ (show (1000000000:Int)≠0 by decide),ic,d2,wrapN (n:=r) (by lia),eT,dj,oL];refine⟨_,z'.natAbs,rfl,by lia,1,z',[]++[(r:Int)],rfl,rfl,AS,dC,C8.1,C8.2,by lia,.inr ⟨by lia,?_⟩⟩;simp only[go_sem,ya,yb,ao]<;>rfl
   .simp only [go_sem,ya,yb,yi,yf,BD,yp,hz,yQ,iD _ _ _ (show (1000000000:Int)≠0 by decide),ic,d2,wrapN (n:=r) (by lia)]
    rw[dZ (ex:=ycP) (pu:=ycO) (cs:=out.map aa) rfl (by rw[yg,hlen,yf]) (by lia) (by lia) (by decide) rfl];simp only[go_sem,ya,yb,gN _ _ _ (show (1000000000:Int)≠0 by decide),dj,oL];refine⟨_,z'.natAbs,rfl,by lia,i+1,z',out++[(r:Int)],rfl,by simp[hlen],AS,dC,C8.1,C8.2,by lia,.inr ⟨by lia,?_⟩⟩;rw[yX];simp only[go_sem,ya,yb,ao]<;>rfl
  .rw [yx ic] at d2;rcases hs with ⟨h0,rfl⟩ | ⟨h0,rfl⟩
   .subst h0;have lh:out=[]:=yu hlen;subst lh;simp only[go_sem,ya,yb,yV,yA,yi,yf,BD,yp,hz,yQ,iD _ _ _ (show (1000000000:Int)≠0 by decide),gN _ _ _ (show (1000000000:Int)≠0 by decide),d2,show ¬((r:Nat):Int)<0 by lia,eT,dj,oL];refine⟨_,z'.natAbs,rfl,by lia,1,z',[]++[(r:Int)],rfl,rfl,AS,dC,C8.1,C8.2,by lia,.inr ⟨by lia,?_⟩⟩;simp only[go_sem,ya,yb,ao]<;>rfl
   .simp only [go_sem,ya,yb,yi,yf,BD,yp,hz,yQ,iD _ _ _ (show (1000000000:Int)≠0 by decide),d2,show ¬((r:Nat):Int)<0 by lia]
    rw[dZ (ex:=ycP) (pu:=ycO) (cs:=out.map aa) rfl (by rw[yg,hlen,yf]) (by lia) (by lia) (by decide) rfl];simp only[go_sem,ya,yb,gN _ _ _ (show (1000000000:Int)≠0 by decide),dj,oL];refine⟨_,z'.natAbs,rfl,by lia,i+1,z',out++[(r:Int)],rfl,by simp[hlen],AS,dC,C8.1,C8.2,by lia,.inr ⟨by lia,?_⟩⟩;rw[yX];simp only[go_sem,ya,yb,ao]<;>rfl
def aiJ(h: -9223372036854775808<=n/\n<9223372036854775808):n.natAbs<=9223372036854775808:=by lia
def aiK(n:Int):cJ (decide (n<0)) n.natAbs=n:=by
 unfold cJ
 grind
def aCu(h:Rm P L)(hn: -9223372036854775808<=n/\n<9223372036854775808):∃r,ah P L 281 [aa n] r/\mS r n:=by
 have key:=fun s=>aAC (P:=P) (L:=L) (neg:=decide (n<0)) (aiJ hn) n.natAbs s
 unfold ah;rw[aB h.amQ];simp only[go_sem,ya,yb,UM,aG];generalize hq:D P L (.loop _ BD) _=q;obtain⟨ex,s,rfl,tm,i,out,rfl,hlen,hi,hd,aR,t2,t4,C6⟩:=bg hq key (by
  refine⟨0,n,[],rfl,rfl,rfl,by simp[dv],fun h=>by simp at h;lia,fun h=>by simp at h;lia,by lia,.inl ⟨rfl,?_⟩⟩
  simp only[go_sem,ya,yb,ao]<;>rfl)
 rcases C6 with ⟨sZ,t3,rfl⟩ | ⟨sZ,t3,rfl⟩
 .subst sZ;have lh:out=[]:=yu hlen;subst lh;have⟨r,e,hr⟩:=AR h.kj h.db (decide (n<0)) (show bl .ae [] from mY) hd (by simp);rw[aR,aiK] at hr;have bt:=hr;obtain⟨w,l,rfl,hw,_,_,_⟩:=bt;refine⟨_,?_,hr⟩;simp only[go_sem,ya,yb,ao,t2,t3,t4,e,hw.pu,hw.one,bf,gQ];rcases hw with ⟨rfl,_⟩ | ⟨e,rfl⟩<;>rfl
 .have hI:=fZ ycP out;rw[hlen] at hI;have⟨r,e,hr⟩:=AR h.kj h.db (decide (n<0)) hI hd (by lia);rw[aR,aiK] at hr;have bt:=hr;obtain⟨w,l,rfl,hw,_,_,_⟩:=bt;refine⟨_,?_,hr⟩
  simp only[go_sem,ya,yb,ao,t2,t3,t4,fun hp=>oR (hp:=hp) (k:=i) (sz:=1) (cs:=out.map aa) ycP (by simp[hlen]) (by decide),e,hw.pu,hw.one,bf,gQ];rcases hw with ⟨rfl,_⟩ | ⟨e,rfl⟩<;>rfl
def aAD(n:Int):RT (n:Rat)=aU n:=by unfold RT;simp
def aCv(h:Rm P L)(Dl:Has P L 265 Hk)(hn: -9223372036854775808<=n/\n<9223372036854775808):ah P L 265 [aa n] (.str (RT (n:Rat))):=by
 have⟨r,e,hr⟩:=aCu h hn;have⟨e2,_⟩:=abO (K:=8) h.abP h.zW (by lia) hr (by have:=aiJ hn;lia)
 rw[aAD];obtain⟨w,l,rfl,hw,_,_,_⟩:=hr;unfold ah at e e2 ⊢;rw[aB Dl];simp only[go_sem,ya,Hk,e,hw.af,bf,a7,e2]
def BI(h:Hq K a):(RT a).length<=2*K+3:=by
 have h1:=MU h.1;have h2:=MU h.2;rw[nS] at h2;unfold RT
 grind
def aiL{z:Int}(h:Bd K z):(ay z.natAbs).length<=K+1:=by
 have:=MU (z:=(z.natAbs:Int)) (k:=K) (by unfold Bd at h ⊢;lia)
 rwa[nS] at this
def TN(h:Rm P L)(ka:Hq K a)(hK:K<=8000000000):∃x y,ah P L 274 [.str (RT a)] (.ax [x,y])/\mS x a.num/\mS y (a.den:Int):=by
 have h1:=aiL ka.1;have h2:=aiL ka.2
 exact amY h.toRb (n:=a.num) (d:=a.den) (by lia) (by simpa using (by lia:(ay ((a.den:Int)).natAbs).length<=144000000000))
def alj(h:Rm P L)(hl:(TT n d).length<=100000000000)(h00:n=0->d=1):ah P L 262 [.str (TT n d)] (aa (cA n)):=by
 unfold ah;rw[aB h.aET];by_cases h0:n<0
 .have cu:=alg (n:=n) (d:=d) (by lia);rw[Td h0] at cu ⊢;simp only[go_sem,ya,OO,pQ,cu,show (0:Int)<(((TT (-n) d).length+1:Nat):Int) by lia,Ht,yo];unfold cA;rw[yK h0]
 .by_cases h1:n=0
  .subst h1
   have:=h00 rfl
   subst this;rw[show TT 0 1=[48] by decide];simp only[go_sem,ya,OO,pQ,show cU [48] [48]=ycO from rfl];rfl
  .have cu:=alg (n:=n) (d:=d) h1;have⟨b,u,hb,qK⟩:=axA (d:=d) h0;rw[hb] at cu ⊢;simp only[go_sem,ya,OO,pQ,cu,show (0:Int)<((u.length+1:Nat):Int) by lia,show rm 0 (.str (b::u))=Ix (.int .u8 (b:Nat)) from rfl,show ¬((b:Nat):Int)=45 by lia];unfold cA;rw[yx h0,yx h1]
def ap1(h:a.num=0):a.den=1:=by simp_all
def aai(h:Rm P L)(ka:Hq K a)(hK:K<=8000000000):ah P L 262 [.str (RT a)] (aa (cA a.num)):=
 alj h (by have:=BI ka;rw[Ow] at this;lia) ap1
def aCw(h:Rp P L)(ka:Hq K a)(hK:K<=8000000000):ah P L 268 [.str (RT a)] (.str (RT (-a))):=by
 have e:=aai h.toRm ka hK;have hl:=BI ka;have en:(-a).num= -a.num:=rfl;have ed:(-a).den=a.den:=rfl;rw[Ow] at hl e ⊢;rw[Ow,en,ed];generalize a.num=n at*
 generalize a.den=d at*
 unfold ah at e ⊢;rw[aB h.aEW];by_cases h0:n<0
 .have es:cA n= -1:=by unfold cA;rw[yK h0]
  rw[es,Td h0] at e;rw[Td h0] at hl ⊢;have hc:jQ (45::TT (-n) d) (Ix 1) (Ix ((TT (-n) d).length+1))=Ix (.str (TT (-n) d)):=by rw[oS (s:=45::TT (-n) d) (l:=1) (h:=(TT (-n) d).length+1) (by lia) (by simp)];simp
  simp only[go_sem,ya,OR,e,show (-1:Int)<0 by decide,fD,gh,ez,hc]
 .by_cases h1:n=0
  .subst h1;have es:cA 0=0:=rfl;rw[es] at e;simp only[go_sem,ya,OR,e,show ¬(0:Int)<0 by decide,yo,Int.neg_zero]
  .have es:cA n=1:=by unfold cA;rw[yx h0,yx h1]
   rw[es] at e
   have:TT (-n) d=45::TT n d:=by rw[Td (by lia),yak]
   rw[this]
   simp only[go_sem,ya,OR,e,show ¬(1:Int)<0 by decide,show ¬(1:Int)=0 by decide,iY (a:=[45]) (b:=TT n d) (by simp;lia),xC,xy]
end
section
variable {K M:Nat}{a b:Rat}
def aiM(n:Int)(d:Nat):Zv ycO n d=.ax [aa n,aa d,.bool ycO]:=rfl
def Ox{a b:Int}(ha:a.natAbs<1000000000)(hb:b.natAbs<1000000000):(a*b).natAbs<1000000000000000000:=by
 rw[Int.natAbs_mul];exact yT (th ha hb) (by decide)
def alk(h:Rm P L){a b:Int}(ha: -4000000000000000000<=a/\a<=4000000000000000000)(hb:0<b/\b<=4000000000000000000):ah P L 277 [aa a,aa b] (.str (RT (wW a b))):=by
 rw[aiI hb.1];exact aDW h.aEU h.abe h.zW ha hb
def TO(h:Rp P L)(ka:Hq K a)(hK:K<=8000000000):∃q:Bool,ah P L 276 [.str (RT a)] (Zv q a.num a.den)/\(q=ycO->a.num.natAbs<1000000000/\a.den<1000000000):=
 aDX h.aEX h.E8 h.Dh (n:=a.num) (d:=a.den) (by have:=BI ka;rw[Ow] at this;lia)
def aaj(h:Rn P L)(ka:Hq K a)(kb:Hq M b)(hK:K+M<=8000000000):ah P L 267 [.str (RT a),.str (RT b)] (.str (RT (a*b))):=by
 have⟨q1,e1,b1⟩:=TO h.toRp ka (by lia);have⟨q2,e2,b2⟩:=TO h.toRp kb (by lia);have aE7:=IC a b;by_cases hq:(q1=ycO/\q2=ycO)
 .obtain ⟨rfl,rfl⟩:=hq;have⟨b11,b12⟩:=b1 rfl;have⟨b21,b22⟩:=b2 rfl;have p1:=Ox b11 b21;have p2:=Ox (a:=(a.den:Int)) (b:=(b.den:Int)) (by lia) (by lia);have e3:=alk h.toRm (a:=a.num*b.num) (b:=(a.den:Int)*b.den) (by lia) (by lia);rw[<-mul_eq] at e3;rw[aiM] at e1 e2;unfold ah at e1 e2 e3 ⊢;rw[aB h.amU]
  simp only[go_sem,ya,OQ,e1,e2,wrap64 (n:=a.num*b.num) (by lia) (by lia),wrap64 (n:=(a.den:Int)*(b.den:Int)) (by lia) (by lia),e3]
 .have bO:∃n1 d1 n2 d2,bM P L (D P L) 276 [.str (RT a)]=Ix (.ax [aa n1,aa d1,.bool q1])/\bM P L (D P L) 276 [.str (RT b)]=Ix (.ax [aa n2,aa d2,.bool q2]):=by
   cases q1<;>cases q2<;>exact⟨_,_,_,_,e1,e2⟩
  have⟨n1,d1,n2,d2,e1,e2⟩:=bO;have⟨x,y,e3,hx,hy⟩:=TN h.toRm ka (by lia);have⟨z,w,e4,hz,hw⟩:=TN h.toRm kb (by lia);have Kq:max K M<=8000000000:=by lia
  have⟨r,e5,hr⟩:=Pn (K:=max K M) h.Pq h.oz h.kj h.db Kq hx hz (ka.1.mono (by lia)).r (kb.1.mono (by lia)).r;have⟨s,e6,hs⟩:=Pn (K:=max K M) h.Pq h.oz h.kj h.db Kq hy hw (ka.2.mono (by lia)).r (kb.2.mono (by lia)).r;have e7:=ali h.toRm hK hr hs (ka.1.mul kb.1) (ka.2.mul kb.2) (by lia);rw[<-mul_eq] at e7;obtain⟨xw,xl,rfl,fA,_,_,_⟩:=hx;obtain⟨yw,yl,rfl,gE,_,_,_⟩:=hy;obtain⟨zw,zl,rfl,ze,_,_,_⟩:=hz;obtain⟨ww,wl,rfl,rS,_,_,_⟩:=hw;obtain⟨dn,rl,rfl,A4,_,_,_⟩:=hr;obtain⟨sw,sl,rfl,nO,_,_,_⟩:=hs;have hb:¬(q1=ycO/\q2=ycO):=hq;unfold ah at e3 e4 e5 e6 e7 ⊢;rw[aB h.amU]
  cases q1 with
  | false=>
   simp only[go_sem,ya,yb,OQ,aG,e1,e2,e3,e4,fA.pu,fA.af,fA.one,gE.pu,gE.af,gE.one,ze.pu,ze.af,ze.one,rS.pu,rS.af,rS.one,A4.af,nO.af,a7,bf,D7,gQ,gH,e5,e6,e7]
  | true=>
   cases q2 with
   | true=>exact absurd ⟨rfl,rfl⟩ hb
   | false=>
    simp only[go_sem,ya,yb,OQ,aG,e1,e2,e3,e4,fA.pu,fA.af,fA.one,gE.pu,gE.af,gE.one,ze.pu,ze.af,ze.one,rS.pu,rS.af,rS.one,A4.af,nO.af,a7,bf,D7,gQ,gH,e5,e6,e7]
def TP(h:Rp P L)(ka:Hq K a)(kb:Hq M b)(hK:K+M+1<=8000000000):ah P L 264 [.str (RT a),.str (RT b)] (.str (RT (a+b))):=by
 have⟨q1,e1,b1⟩:=TO h ka (by lia);have⟨q2,e2,b2⟩:=TO h kb (by lia);have aE7:=IC a b;by_cases hq:(q1=ycO/\q2=ycO)
 .obtain ⟨rfl,rfl⟩:=hq;have⟨b11,b12⟩:=b1 rfl;have⟨b21,b22⟩:=b2 rfl;have p1:=Ox (a:=a.num) (b:=(b.den:Int)) (by lia) (by lia);have p2:=Ox (a:=b.num) (b:=(a.den:Int)) (by lia) (by lia);have p3:=Ox (a:=(a.den:Int)) (b:=(b.den:Int)) (by lia) (by lia);have e3:=alk h.toRm (a:=a.num*b.den+b.num*a.den) (b:=(a.den:Int)*b.den) (by lia) (by lia);rw[<-add_eq] at e3;rw[aiM] at e1 e2;unfold ah at e1 e2 e3 ⊢;rw[aB h.amT]
  simp only[go_sem,ya,OP,e1,e2,wrap64 (n:=a.num*(b.den:Int)) (by lia) (by lia),wrap64 (n:=b.num*(a.den:Int)) (by lia) (by lia),wrap64 (n:=a.num*(b.den:Int)+b.num*(a.den:Int)) (by lia) (by lia),wrap64 (n:=(a.den:Int)*(b.den:Int)) (by lia) (by lia),e3]
 .have bO:∃n1 d1 n2 d2,bM P L (D P L) 276 [.str (RT a)]=Ix (.ax [aa n1,aa d1,.bool q1])/\bM P L (D P L) 276 [.str (RT b)]=Ix (.ax [aa n2,aa d2,.bool q2]):=by
   cases q1<;>cases q2<;>exact⟨_,_,_,_,e1,e2⟩
  have⟨n1,d1,n2,d2,e1,e2⟩:=bO;have⟨x,y,e3,hx,hy⟩:=TN h.toRm ka (by lia);have⟨z,w,e4,hz,hw⟩:=TN h.toRm kb (by lia);have Kq:max K M<=8000000000:=by lia
  have⟨r,e5,hr⟩:=Pn (K:=max K M) h.Pq h.oz h.kj h.db Kq hx hw (ka.1.mono (by lia)).r (kb.2.mono (by lia)).r;have⟨r2,e52,ep⟩:=Pn (K:=max K M) h.Pq h.oz h.kj h.db Kq hz hy (kb.1.mono (by lia)).r (ka.2.mono (by lia)).r;have⟨s,e6,hs⟩:=Pn (K:=max K M) h.Pq h.oz h.kj h.db Kq hy hw (ka.2.mono (by lia)).r (kb.2.mono (by lia)).r;have k1:Bd (K+M) (a.num*b.den):=ka.1.mul kb.2;have k2:Bd (K+M) (b.num*a.den):=(kb.1.mul ka.2).mono (by lia);have⟨t,e8,ht⟩:=aEL (K:=K+M) h.aEY h.abL h.sL h.Vh h.rG h.kj h.db (by lia) hr ep k1.r k2.r;have e7:=ali h.toRm hK ht hs (k1.abu k2) ((ka.2.mul kb.2).mono (by lia)) (by lia);rw[<-add_eq] at e7;obtain⟨xw,xl,rfl,fA,_,_,_⟩:=hx;obtain⟨yw,yl,rfl,gE,_,_,_⟩:=hy;obtain⟨zw,zl,rfl,ze,_,_,_⟩:=hz;obtain⟨ww,wl,rfl,rS,_,_,_⟩:=hw;obtain⟨dn,rl,rfl,A4,_,_,_⟩:=hr;obtain⟨rw2,rl2,rfl,amZ,_,_,_⟩:=ep
  obtain⟨tw,tl,rfl,htw,_,_,_⟩:=ht;obtain⟨sw,sl,rfl,nO,_,_,_⟩:=hs;have hb:¬(q1=ycO/\q2=ycO):=hq;unfold ah at e3 e4 e5 e52 e6 e7 e8 ⊢;rw[aB h.amT]
  cases q1 with
  | false=>
   simp only[go_sem,ya,yb,OP,aG,e1,e2,e3,e4,fA.pu,fA.af,fA.one,gE.pu,gE.af,gE.one,ze.pu,ze.af,ze.one,rS.pu,rS.af,rS.one,A4.af,amZ.af,htw.af,nO.af,a7,bf,D7,gQ,gH,e5,e52,e8,e6,e7]
  | true=>
   cases q2 with
   | true=>exact absurd ⟨rfl,rfl⟩ hb
   | false=>
    simp only[go_sem,ya,yb,OP,aG,e1,e2,e3,e4,fA.pu,fA.af,fA.one,gE.pu,gE.af,gE.one,ze.pu,ze.af,ze.one,rS.pu,rS.af,rS.one,A4.af,amZ.af,htw.af,nO.af,a7,bf,D7,gQ,gH,e5,e52,e8,e6,e7]
def aak(h:Rp P L)(ka:Hq K a)(kb:Hq M b)(hK:K+M+1<=8000000000):ah P L 271 [.str (RT a),.str (RT b)] (.str (RT (a-b))):=by
 have e1:=aCw h kb (by lia);have e2:=TP h ka kb.neg hK;rw[<-Rat.sub_eq_add_neg] at e2;unfold ah at e1 e2 ⊢;rw[aB h.Pp];simp only[go_sem,ya,OS,e1,e2]
end
section
variable {a b s t:List Nat}{k:Nat}
def agu{P:aJ}{L:Lib}(a b c d:VC)(s:St):D P L (.seq a (.seq b (.seq c d))) s=ju P L (D P L (.seq a (.seq b c)) s) d:=by
 have e:=Gh (P:=P) (L:=L) b c d;rw[nv,nv]
 cases D P L a s with
 | none=>rfl
 | some q=>
  have⟨ex,st⟩:=q
  cases ex with
  | normal=>rw[il,il];exact e st
  | ret=>rfl
  | exit id=>rfl
def sA(h:a≠b):cU a b=ycP:=by
 cases hb:cU a b with
 | false=>rfl
 | true=>exact absurd (Yx hb) h
def ahz:∀a:List Nat,cU a a=ycO
 | []=>rfl
 | x::a=>by simp[cU,ahz a]
def ZF(h:a=b):cU a b=ycO:=h▸ahz a
def asT{i:Nat}(h:i<s.length):dK (s.drop i)=(yO 48 s[i]&&yO s[i] 57&&dK (s.drop (i+1))):=by
 rw[yP h];rfl
def aE8(h:Has P L 287 OV)(hl:s.length<9223372036854775808):ah P L 287 [.str s] (.bool (dK s)):=by
 have key:=dT P L [0,3] GG
  (fun k st=>∃i:Nat,st=⟨[(0,.str s),(3,aa i)],[],0,0⟩/\i+k=s.length/\dK (s.drop i)=dK s)
  (fun ex st=>∃tm ct,st=⟨tm,[],ct,0⟩/\((ex=.ret/\ab tm 2=.bool ycP/\dK s=ycP)\/(ex=.exit 0/\dK s=ycO))) ?_
 .unfold ah;rw[aB h];simp only[go_sem,OV];generalize hq:D P L (.loop _ GG) _=q;obtain⟨ex,st,rfl,tm,ct,rfl,h2⟩:=bg hq (key s.length) ⟨0,by simp only[go_sem,ya,ao]<;>rfl,by lia,by simp⟩
  rcases h2 with ⟨rfl,h2,h3⟩ | ⟨rfl,h3⟩
  .simp only [go_sem,h2,h3]
  .simp only [go_sem,ao,h3]
 .rintro k st ⟨i,rfl,hk,hs⟩;by_cases hi:i<s.length
  .rw [asT hi] at hs;by_cases h1:s[i]<48
   .right
    have e:yO 48 s[i]=ycP:=by
     cases hb:yO 48 s[i] with
     | false=>rfl
     | true=>have:=yF hb;lia
    rw[e,xI,xI] at hs;simp only[go_sem,ya,GG,show (i:Int)<s.length by lia,AB hi,show ((s[i]:Nat):Int)<48 by lia,yo];exact⟨_,_,rfl,by simp,_,_,rfl,.inl ⟨rfl,rfl,hs.symm⟩⟩
   .by_cases h2:57<s[i]
    .right
     have e:yO s[i] 57=ycP:=by
      cases hb:yO s[i] 57 with
      | false=>rfl
      | true=>have:=yF hb;lia
     rw[e,Bool.and_false,xI] at hs;simp only[go_sem,ya,GG,show (i:Int)<s.length by lia,AB hi,show ¬((s[i]:Nat):Int)<48 by lia,yp,show (57:Int)<((s[i]:Nat):Int) by lia];exact⟨_,_,rfl,by simp,_,_,rfl,.inl ⟨rfl,rfl,hs.symm⟩⟩
    .left
     rw[yC (show 48<=s[i] by lia),yC (show s[i]<=57 by lia),xQ,xQ] at hs;simp only[go_sem,ya,GG,show (i:Int)<s.length by lia,AB hi,show ¬((s[i]:Nat):Int)<48 by lia,yp,show ¬(57:Int)<((s[i]:Nat):Int) by lia];refine⟨_,k-1,rfl,by lia,i+1,?_,by lia,hs⟩;rw[wrap64 (by lia) (by lia)];simp only[go_sem,ya,ao]<;>rfl
  .right
   simp only[go_sem,ya,GG,show ¬(i:Int)<s.length by lia];refine⟨_,_,rfl,by simp,_,_,rfl,.inr ⟨rfl,?_⟩⟩;rw[<-hs,yY (by lia)];rfl
def Vj(h:Has P L 273 Hl)(Kp:Has P L 287 OV)(hl:s.length<9223372036854775808):ah P L 273 [.str s] (.bool (eh s)):=by
 have e:=aE8 Kp hl;unfold ah at e ⊢;rw[aB h]
 match s,hl,e with
 | [],_,_=>
  simp only[go_sem,ya,Hl,yI,show ((0:Nat):Int)=0 from rfl,yo];rfl
 | [b],_,e=>
  have:eh [b]=dK [b]:=by simp[eh]
  rw[this];simp only[go_sem,ya,Hl,yB,yI,yd,show ¬((1:Nat):Int)=0 by decide,show ¬(1:Int)<((1:Nat):Int) by decide,yp,e]
 | b::c::r,hl,e=>
  have hd:eh (b::c::r)=(dK (b::c::r)&& !(yG b 48)):=by simp[eh]
  rw[hd];have hl':r.length+2<9223372036854775808:=by simpa using hl
  by_cases hb:b=48
  .subst hb;simp only[go_sem,ya,Hl,yB,show ¬((r.length+1+1:Nat):Int)=0 by lia,yp,show (1:Int)<((r.length+1+1:Nat):Int) by lia,show rm 0 (.str (48::c::r))=Ix (.int .u8 48) from rfl,yo]
   simp
  .have:yG b 48=ycP:=jL hb
   rw[this,yQ,vV];simp only[go_sem,ya,Hl,yB,show ¬((r.length+1+1:Nat):Int)=0 by lia,yp,show (1:Int)<((r.length+1+1:Nat):Int) by lia,show rm 0 (.str (b::c::r))=Ix (.int .u8 (b:Nat)) from rfl,show ¬((b:Nat):Int)=48 by lia,e]
def ahA(h:k<=s.length):jQ s (Ix 0) (Ix k)=Ix (.str (s.take k)):=by
 rw[oS (by lia) h,yh]
def Sc(h:k<=s.length):jQ s (Ix k) (Ix s.length)=Ix (.str (s.drop k)):=by
 rw[oS h (ym _),xH]
def aAE(h:Rm P L)(hk:k=bY t)(hl:t.length<9223372036854775808)(hp:eh (t.take k)=ycO)(t3:ab tm 3=.str t)(t4:ab tm 4=aa k):
  fp [.t 2] (D P L (aA (aA (aA (aA (aA dN.body))))) ⟨tm,[],0,0⟩)=Ix (aa (
   if k<t.length/\(eh (t.drop (k+1))=ycP\/t.drop (k+1)=[48]\/t.drop (k+1)=[49]) then 1
   else if 600<k\/600<t.length-k-1 then 4
   else if k<t.length/\wX (gU (t.take k)) (gU (t.drop (k+1)))≠1 then 1
   else 0)):=by
 have Ms:k<=t.length:=by rw[hk];exact MT t
 have e3:=Vj h.Vi h.Kp (s:=t.drop (k+1)) (by rw[xZ];lia)
 unfold ah at e3;have FW:(k:Int)+1=((k+1:Nat):Int):=rfl;by_cases hs:k<t.length
 .have c2:=Sc (s:=t) (k:=k+1) (by lia);have nk:=aet t (by lia);rw[<-hk] at nk;have Qs:(t.drop (k+1)).length=t.length-k-1:=by rw[xZ];lia
  have hlp:(t.take k).length=k:=by rw[yJ];lia
  generalize hqe:t.drop (k+1)=q at*
  generalize hpe:t.take k=p at*
  cases hd:eh q with
  | false=>
   rw[yK ⟨hs,.inl rfl⟩];rw[hd] at e3
   simp only[go_sem,ya,dN,aA,t3,t4,show (k:Int)<(t.length:Int) by lia,yo,FW,wrapN (n:=k+1) (by lia),fD,gh,ez,c2,e3,yQ]
  | true=>
   rw[hd] at e3;by_cases mo:q=[48]
   .rw [yK ⟨hs,.inr (.inl mo)⟩]
    simp only[go_sem,ya,dN,aA,t3,t4,show (k:Int)<(t.length:Int) by lia,yo,FW,wrapN (n:=k+1) (by lia),fD,gh,ez,c2,e3,yM,pQ,ZF mo]
   .by_cases za:q=[49]
    .rw [yK ⟨hs,.inr (.inr za)⟩]
     simp only[go_sem,ya,dN,aA,t3,t4,show (k:Int)<(t.length:Int) by lia,yo,FW,wrapN (n:=k+1) (by lia),fD,gh,ez,c2,e3,yM,pQ,sA mo,ZF za]
    .rw [yx (by simp only[hs,tZ,ybh,ycp];exact fun e=>e.elim mo za)]
     by_cases HK:600<k
     .rw [yK (.inl HK)]
      simp only[go_sem,ya,dN,aA,t3,t4,show (k:Int)<(t.length:Int) by lia,yo,FW,wrapN (n:=k+1) (by lia),fD,gh,ez,c2,e3,yM,pQ,sA mo,sA za,show (600:Int)<(k:Int) by lia]
     .by_cases aE9:600<t.length-k-1
      .rw [yK (.inr aE9)]
       simp only[go_sem,ya,dN,aA,t3,t4,show (k:Int)<(t.length:Int) by lia,yo,FW,wrapN (n:=k+1) (by lia),fD,gh,ez,c2,e3,yM,pQ,sA mo,sA za,show ¬(600:Int)<(k:Int) by lia,yp,show (t.length:Int)-(k:Int)=((t.length-k:Nat):Int) by lia,wrapN (n:=t.length-k) (by lia),show ((t.length-k:Nat):Int)-1=((t.length-k-1:Nat):Int) by lia,wrapN (n:=t.length-k-1) (by lia),show (600:Int)<((t.length-k-1:Nat):Int) by lia]
      .rw [yx (by lia)];have Bf:=IQ _ rfl hp;have zc:=IQ _ rfl hd;have iM:gU q≠0:=fun e=>mo (by rw[<-zc,e];rfl)
       have iw:gU q≠1:=fun e=>za (by rw[<-zc,e];rfl)
       generalize gU p=n at*
       generalize gU q=d at*
       have hT:TT (n:Int) d=t:=by
        unfold TT;rw[nS,yx iw,Bf,zc];exact nk.symm
       have⟨x,y,e4,hx,hy⟩:=amY h.toRb (n:=(n:Int)) (d:=d) (by rw[wA,Bf];lia) (by rw[zc];lia)
       rw[hT] at e4;obtain⟨xw,xl,rfl,fA,dx,nx,vx⟩:=hx;obtain⟨yw,yl,rfl,gE,dy,ny,vy⟩:=hy;rw[wA] at vx vy;have Ah:n<10^p.length:=by rw[<-Bf];exact Nl n
       have hdb:d<10^q.length:=by rw[<-zc];exact Nl d
       obtain⟨K,hK⟩:∃K:Nat,K=600:=⟨_,rfl⟩;have Ww:∀{m j:Nat},m<10^j->j<=K->m<1000000000^K:=fun {m j} h1 h2=>
        yT h1 (xB (y9 (by decide) h2) (vR (by decide) K))
       have lxl:=lU dx nx (by rw[vx];exact Ww Ah (by lia))
       have lyl:=lU dy ny (by rw[vy];exact Ww hdb (by lia))
       have⟨g,lg,e5,hg,dgg,ngg,vg⟩:=alf h.amP h.Po h.oz h.sL h.zZ h.db h.AU fA gE dx dy nx ny (by lia) (by lia);rw[vx,vy] at vg;have PV:0<wX n d:=Nat.gcd_pos_of_pos_right _ (by lia);unfold ah at e4 e5;by_cases abQ:lg.length=1
       .obtain ⟨z,rfl⟩:∃z,lg=[z]:=by
         cases lg with
         | nil=>simp at abQ
         | cons z r=>cases r with
          | nil=>exact⟨z,rfl⟩
          | cons y r=>simp at abQ
        have gz:=nY.1 dgg;have Qy:z=(wX n d:Nat):=by simp[dv] at vg;lia
        have e8:=hg.aT (i:=0) (by simp);simp only[wJ] at e8;by_cases jS:wX n d=1
        .rw [yx (by simp[jS])]
         simp only[go_sem,ya,yb,dN,aA,t3,t4,show (k:Int)<(t.length:Int) by lia,yo,FW,wrapN (n:=k+1) (by lia),fD,gh,ez,c2,e3,yM,pQ,sA mo,sA za,show ¬(600:Int)<(k:Int) by lia,yp,show (t.length:Int)-(k:Int)=((t.length-k:Nat):Int) by lia,wrapN (n:=t.length-k) (by lia),show ((t.length-k:Nat):Int)-1=((t.length-k-1:Nat):Int) by lia,wrapN (n:=t.length-k-1) (by lia),show ¬(600:Int)<((t.length-k-1:Nat):Int) by lia,e4,aG,fA.pu,fA.af,fA.one,gE.pu,gE.af,gE.one,gQ,aZ,yd,cD,e5,hg.len,hg.shut,yB,yI,show ((1:Nat):Int)=(1:Int) from rfl,yM,e8,Qy,jS]
        .rw [yK ⟨hs,jS⟩]
         simp only[go_sem,ya,yb,dN,aA,t3,t4,show (k:Int)<(t.length:Int) by lia,yo,FW,wrapN (n:=k+1) (by lia),fD,gh,ez,c2,e3,yM,pQ,sA mo,sA za,show ¬(600:Int)<(k:Int) by lia,yp,show (t.length:Int)-(k:Int)=((t.length-k:Nat):Int) by lia,wrapN (n:=t.length-k) (by lia),show ((t.length-k:Nat):Int)-1=((t.length-k-1:Nat):Int) by lia,wrapN (n:=t.length-k-1) (by lia),show ¬(600:Int)<((t.length-k-1:Nat):Int) by lia,e4,aG,fA.pu,fA.af,fA.one,gE.pu,gE.af,gE.one,gQ,aZ,yd,cD,e5,hg.len,hg.shut,yB,yI,show ((1:Nat):Int)=(1:Int) from rfl,yM,e8,Qy,show ¬((wX n d:Nat):Int)=1 by lia,yQ]
       .have jS:wX n d≠1:=fun e=>abQ (by
         have h1:lg.length<=1:=aiH dgg ngg (by lia);have h2:0<lg.length:=by
          rcases xE lg.length with h0 | h0
          .rw [yu h0] at vg;simp[dv] at vg;lia
          .exact h0
         lia)
        rw[yK ⟨hs,jS⟩]
        simp only[go_sem,ya,yb,dN,aA,t3,t4,show (k:Int)<(t.length:Int) by lia,yo,FW,wrapN (n:=k+1) (by lia),fD,gh,ez,c2,e3,yM,pQ,sA mo,sA za,show ¬(600:Int)<(k:Int) by lia,yp,show (t.length:Int)-(k:Int)=((t.length-k:Nat):Int) by lia,wrapN (n:=t.length-k) (by lia),show ((t.length-k:Nat):Int)-1=((t.length-k-1:Nat):Int) by lia,wrapN (n:=t.length-k-1) (by lia),show ¬(600:Int)<((t.length-k-1:Nat):Int) by lia,e4,aG,fA.pu,fA.af,fA.one,gE.pu,gE.af,gE.one,gQ,aZ,yd,cD,e5,hg.len,hg.shut,show ¬(lg.length:Int)=1 by lia,yQ]
 .have hkt:k=t.length:=by lia
  rw[yx (by lia)];by_cases HK:600<k
  .rw [yK (.inl HK)];simp only[go_sem,ya,dN,aA,t3,t4,show ¬(k:Int)<(t.length:Int) by lia,yp,show (600:Int)<(k:Int) by lia,yo]
  .rw [yx (by lia),yx (by lia)]
   simp only[go_sem,ya,dN,aA,t3,t4,show ¬(k:Int)<(t.length:Int) by lia,yp,show ¬(600:Int)<(k:Int) by lia,show (t.length:Int)-(k:Int)=((t.length-k:Nat):Int) by lia,wrapN (n:=t.length-k) (by lia),show ((t.length-k:Nat):Int)-1= -1 by lia,show IntKind.wrap .i64 (-1)= -1 by rfl,show ¬(600:Int)<(-1:Int) by lia]
def ajM(h:Rm P L){b:Nat}{r:List Nat}{neg:Bool}(ic:decide (((b:Nat):Int)=45)=neg)(hl:t.length<9223372036854775808)(t0:ab tm 0=.str (b::r))(t3:ab tm 3=.str t):
  fp [.t 2] (D P L (aA (aA (aA dN.body))) ⟨tm,[],0,0⟩)=Ix (aa (qD neg t)):=by
 obtain⟨k,hk⟩:∃k,k=bY t:=⟨_,rfl⟩;have Ms:k<=t.length:=by rw[hk];exact MT t
 have e1:=Ki h.E8 (s:=t) (by lia);have e2:=Vj h.Vi h.Kp (s:=t.take k) (by rw[yJ];lia)
 have e3:=Vj h.Vi h.Kp (s:=t.drop (k+1)) (by rw[xZ];lia)
 unfold qD;rw[<-hk] at e1 ⊢;have c1:=ahA Ms;have hI:rm 0 (.str (b::r))=Ix (.int .u8 (b:Nat)):=rfl;unfold ah at e1 e2 e3;generalize hp:t.take k=p at*
 generalize hq:t.drop (k+1)=q at*
 cases hd:eh p with
 | false=>
  rw[yK (.inl rfl)];rw[hd] at e2;simp only[go_sem,ya,dN,aA,t3,e1,fD,gh,ez,c1,e2,yQ]
 | true=>
  rw[hd] at e2;by_cases hz:neg=ycO/\p=[48]
  .rw [yK (.inr hz)];have⟨z1,z2⟩:=hz;rw[z1] at ic;have hb:=of_decide_eq_true ic;subst z2;simp only[go_sem,ya,dN,aA,t0,t3,e1,fD,gh,ez,c1,e2,yM,hI,hb,yo,pQ,show cU [48] [48]=ycO from rfl]
  .rw [yx (by simp only[ybh,ycp];exact hz)]
   have fin:∀tm',ab tm' 3=.str t->ab tm' 4=aa k->D P L (.seq (aX (aA (aA (aA dN.body)))) (aX (aA (aA (aA (aA dN.body)))))) ⟨tm,[],0,0⟩=Ix (.normal,⟨tm',[],0,0⟩)->fp [.t 2] (D P L (aA (aA (aA dN.body))) ⟨tm,[],0,0⟩)=Ix (aa (
     if k<t.length/\(eh q=ycP\/q=[48]\/q=[49]) then 1
     else if 600<k\/600<t.length-k-1 then 4
     else if k<t.length/\wX (gU p) (gU q)≠1 then 1
     else 0)):=fun tm' f3 f4 e=>by
    show fp [.t 2] (D P L (.seq (aX (aA (aA (aA dN.body)))) (.seq (aX (aA (aA (aA (aA dN.body))))) (aA (aA (aA (aA (aA dN.body))))))) ⟨tm,[],0,0⟩)=_
    rw[Gh,e,il,<-hp,<-hq];exact aAE h hk hl (by rw[hp];exact hd) f3 f4
   by_cases hb:((b:Nat):Int)=45
   .have aFa:p≠[48]:=fun e=>hz ⟨by rw[<-ic];exact xG hb,e⟩
    refine fin _ ?_ ?_ (by simp only[go_sem,ya,dN,aX,aA,t0,t3,e1,fD,gh,ez,c1,e2,yM,hI,hb,yo,pQ,sA aFa]<;>rfl)<;>simp only[go_sem,ya,t3]
   .refine fin _ ?_ ?_ (by simp only[go_sem,ya,dN,aX,aA,t0,t3,e1,fD,gh,ez,c1,e2,yM,hI,hb,yp]<;>rfl)<;>simp only[go_sem,ya,t3]
def Vk(h:Rm P L)(hl:s.length<9223372036854775808):ah P L 263 [.str s] (aa (aM s)):=by
 unfold ah;rw[aB h.aE2]
 cases s with
 | nil=>
  have e1:=Ki h.E8 (s:=[]) (by simp);have e2:=Vj h.Vi h.Kp (s:=[]) (by simp);unfold ah at e1 e2;have hc:jQ [] (Ix 0) (Ix 0)=Ix (.str []):=rfl;simp only[go_sem,ya,dN,yI,show ¬(0:Int)<((0:Nat):Int) by decide,yp,e1,bY,fD,gh,ez,hc,e2,show eh []=ycP from rfl,yQ];rfl
 | cons b t=>
  have hl':t.length+1<9223372036854775808:=by simpa using hl
  have hI:rm 0 (.str (b::t))=Ix (.int .u8 (b:Nat)):=rfl;by_cases hb:b=45
  .subst hb;have fin:∀tm',ab tm' 0=.str (45::t)->ab tm' 3=.str t->D P L (.seq (aX dN.body) (.seq (aX (aA dN.body)) (aX (aA (aA dN.body))))) ⟨[(0,.str (45::t))],[],0,0⟩=Ix (.normal,⟨tm',[],0,0⟩)->fp [.t 2] (D P L dN.body ⟨[(0,.str (45::t))],[],0,0⟩)=Ix (aa (aM (45::t))):=fun tm' f0 f3 e=>by
    show fp [.t 2] (D P L (.seq (aX dN.body) (.seq (aX (aA dN.body)) (.seq (aX (aA (aA dN.body))) (aA (aA (aA dN.body)))))) ⟨[(0,.str (45::t))],[],0,0⟩)=_
    rw[agu,e,il]
    exact ajM h (b:=45) rfl (by lia) f0 f3
   have hc:jQ (45::t) (Ix 1) (Ix (t.length+1))=Ix (.str t):=by
    have:=Sc (s:=45::t) (k:=1) (by simp)
    simpa using this
   refine fin _ ?_ ?_ (by simp only[go_sem,ya,dN,aX,aA,yB,show (0:Int)<((t.length+1:Nat):Int) by lia,yo,Ht,fD,gh,ez,hc]<;>rfl)<;>simp only[go_sem,ya]
  .have fin:∀tm',ab tm' 0=.str (b::t)->ab tm' 3=.str (b::t)->D P L (.seq (aX dN.body) (.seq (aX (aA dN.body)) (aX (aA (aA dN.body))))) ⟨[(0,.str (b::t))],[],0,0⟩=Ix (.normal,⟨tm',[],0,0⟩)->fp [.t 2] (D P L dN.body ⟨[(0,.str (b::t))],[],0,0⟩)=Ix (aa (aM (b::t))):=fun tm' f0 f3 e=>by
    show fp [.t 2] (D P L (.seq (aX dN.body) (.seq (aX (aA dN.body)) (.seq (aX (aA (aA dN.body))) (aA (aA (aA dN.body)))))) ⟨[(0,.str (b::t))],[],0,0⟩)=_
    rw[agu,e,il]
    have:=ajM h (b:=b) (neg:=ycP) (xn (by lia)) (by simpa using hl) f0 f3
    rw[this];simp only[aM,yx hb]
   refine fin _ ?_ ?_ (by simp only[go_sem,ya,dN,aX,aA,yB,show (0:Int)<((t.length+1:Nat):Int) by lia,yo,hI,show ¬((b:Nat):Int)=45 by lia]<;>rfl)<;>simp only[go_sem,ya]
end
section
variable {l:List (List Nat)}
def bw(v:AV)(l:List (List Nat)):Prop:=dt v (l.map AV.str)
section
variable {v:AV}{l:List (List Nat)}
def bw.len(h:bw v l):fu hp 1 v=Ix (.int .i64 (l.length:Nat)):=by
 have:=dt.len (hp:=hp) h
 grind
def bw.pu(h:bw v l):aP v=ycO:=dt.pu h
def bw.af(h:bw v l)(n:Nat):freeze (n+1) hp v=Ix (v,hp):=dt.af h n
def bw.cd(h:bw v l):VE.cd v=v:=dt.cd h
def bw.one(h:bw v l):bF v=ycO:=dt.one h
def bw.cells(h:bw v l):cellsOf v=[v]:=dt.cells h
def bw.aT(h:bw v l){i:Nat}(hi:i<l.length):iZ 1 i v=Ix (.aQ (.str l[i]::(l.map AV.str).drop (i+1))):=by
 have:=dt.aT h (i:=i) (by simpa using hi)
 grind
def Gr(e:Bool)(l:List (List Nat)):bw (.aF e l.length (l.map AV.str)) l:=by
 have:=Nj e (l.map AV.str)
 rwa[yg] at this
end
def axC(h:Rm P L){a:Rat}(ka:Hq K a)(hK:K<=4000000000):bM P L (D P L) 284 [.str (RT a)]=Ix (.str (aU a.num))/\bM P L (D P L) 285 [.str (aU a.num)]=Ix (.str (ay a.num.natAbs))/\bM P L (D P L) 286 [.str (RT a)]=Ix (.str (ay a.den)):=by
 have hl:=BI ka;have e0:=Ki h.E8 (s:=RT a) (by lia);have ki:bY (RT a)=(aU a.num).length/\(RT a).take (aU a.num).length=aU a.num:=by
  unfold RT;by_cases hd:a.den=1
  .rw [yK hd,wh]
   have:=MH a.num []
   rw[wh] at this;exact⟨by rw[this];simp[bY],xH⟩
  .rw [yx hd];exact⟨by rw[MH];simp[bY],tg⟩
 have⟨fh,Cg⟩:=ki;rw[fh] at e0;have hlen:(aU a.num).length<=(RT a).length:=by unfold RT;simp
 have e1:bM P L (D P L) 284 [.str (RT a)]=Ix (.str (aU a.num)):=by
  rw[aB h.aE3]
  have:=ahA (s:=RT a) hlen
  simp only[go_sem,ya,aaZ,e0,fD,gh,ez,this,Cg]
 have hT:aU a.num=TT a.num 1:=by unfold TT;simp
 have e2:bM P L (D P L) 285 [.str (aU a.num)]=Ix (.str (ay a.num.natAbs)):=by
  have e:=alj h (n:=a.num) (d:=1) (by rw[<-hT];lia) (fun _=>rfl)
  rw[<-hT] at e;rw[aB h.aE4];by_cases h0:a.num<0
  .have es:cA a.num= -1:=by unfold cA;rw[yK h0]
   rw[es] at e;rw[mZ h0] at e ⊢;have hc:=Sc (s:=45::ay a.num.natAbs) (k:=1) (by simp);simp only[List.drop_succ_cons,yh,yB] at hc;simp only[go_sem,ya,UN,e,show (-1:Int)<0 by decide,fD,gh,ez,hc]
  .have es:¬cA a.num<0:=by unfold cA;rw[yx h0];split<;>decide
   have hi:aU a.num=ay a.num.natAbs:=by
    obtain⟨m,hm⟩:∃m:Nat,a.num=m:=⟨a.num.toNat,by lia⟩;rw[hm,nS,wA]
   simp only[go_sem,ya,UN,e,es];rw[hi]
 have e3:bM P L (D P L) 286 [.str (RT a)]=Ix (.str (ay a.den)):=by
  rw[aB h.aE5];by_cases hd:a.den=1
  .have hR:(RT a).length=(aU a.num).length:=by unfold RT;rw[yK hd];simp
   rw[hd,show ay 1=[49] by decide];simp only[go_sem,ya,UO,e0,show ((aU a.num).length:Int)=((RT a).length:Int) by lia,yo]
  .have hR:RT a=(aU a.num++[47])++ay a.den:=by unfold RT;rw[yx hd];simp
   have hRl:(RT a).length=(aU a.num).length+1+(ay a.den).length:=by rw[hR];simp;lia
   have hc:=Sc (s:=RT a) (k:=(aU a.num).length+1) (by lia);have ik:(RT a).drop ((aU a.num).length+1)=ay a.den:=by
    rw[hR,show (aU a.num).length+1=(aU a.num++[47]).length by simp,um]
   rw[ik] at hc
   simp only[go_sem,ya,UO,e0,show ¬((aU a.num).length:Int)=((RT a).length:Int) by lia,show ((aU a.num).length:Int)+1=(((aU a.num).length+1:Nat):Int) from rfl,wrapN (n:=(aU a.num).length+1) (by lia),fD,gh,ez,hc]
 exact⟨e1,e2,e3⟩
def agv{i:Nat}(h:i<l.length):a6 ((l.drop i).map aM)=if aM l[i]=0 then a6 ((l.drop (i+1)).map aM) else aM l[i]:=by
 rw[yP h];rfl
def TQ(h:Rm P L)(B5:Has P L 261 Ka)(hv:bw v l)(hl:l.length<=1000000)(hs:∀s,s∈l->s.length<9223372036854775808):ah P L 261 [v] (aa (a6 (l.map aM))):=by
 have key:=dT P L [0,3] Jf
  (fun k st=>∃i:Nat,st=⟨[(0,v),(3,aa i)],[],0,0⟩/\i+k=l.length/\a6 ((l.drop i).map aM)=a6 (l.map aM))
  (fun ex st=>∃tm ct,st=⟨tm,[],ct,0⟩/\((ex=.ret/\ab tm 2=aa (a6 (l.map aM)))\/(ex=.exit 0/\a6 (l.map aM)=0))) ?_
 .unfold ah;rw[aB B5];simp only[go_sem,Ka];generalize hq:D P L (.loop _ Jf) _=q;obtain⟨ex,st,rfl,tm,ct,rfl,h2⟩:=bg hq (key l.length) ⟨0,by simp only[go_sem,ya,ao,aj hv.pu]<;>rfl,by lia,by simp⟩
  rcases h2 with ⟨rfl,h2⟩ | ⟨rfl,h3⟩
  .simp only [go_sem,h2]
  .simp only [go_sem,ao,h3]
 .rintro k st ⟨i,rfl,hk,hd⟩;by_cases hi:i<l.length
  .rw [agv hi] at hd;have e1:=Vk h (hs l[i] (yy hi));have ev:=hv.aT hi;unfold ah at e1;by_cases h1:aM l[i]=0
   .left
    rw[yK h1] at hd;rw[h1] at e1;simp only[go_sem,ya,Jf,hv.len,show (i:Int)<l.length by lia,ev,e1,yo,yM];refine⟨_,k-1,rfl,by lia,i+1,?_,by lia,hd⟩;rw[wrap64 (by lia) (by lia)];simp only[go_sem,ya,ao,aj hv.pu]<;>rfl
   .right
    rw[yx h1] at hd;simp only[go_sem,ya,Jf,hv.len,show (i:Int)<l.length by lia,ev,e1,h1,yp,yQ];refine⟨_,_,rfl,by simp,_,_,rfl,.inl ⟨rfl,?_⟩⟩;rw[<-hd];simp only[go_sem]
  .right
   simp only[go_sem,ya,Jf,hv.len,show ¬(i:Int)<l.length by lia];refine⟨_,_,rfl,by simp,_,_,rfl,.inr ⟨rfl,?_⟩⟩;rw[<-hd,yY (by lia)];rfl
def aCx(h:Rm P L)(B5:Has P L 261 Ka)(hv:bw v l)(hl:l.length<=1000000)(hs:∀s,s∈l->s.length<=1000000000):ah P L 261 [v] (aa (a6 (l.map aM))):=TQ h B5 hv hl (fun s h=>by have:=hs s h;lia)
end
section
open Go (IntKind)
open Classical in
section
variable {s x y:List Nat}{M:Nat}{a:Rat}
noncomputable def aI(s:List Nat):Rat:=if h:aM s=0 then Classical.choose (aAn h) else 0
def CE(h:aM s=0):s=RT (aI s)/\(ay (aI s).num.natAbs).length<=600/\(ay (aI s).den).length<=600:=by
 unfold aI
 grind
def Bt{z:Int}{k:Nat}(h:(ay z.natAbs).length<=k)(hM:4*k<=M):Bd M z:=by
 have h1:=Nl z.natAbs;have h2:=Nn (ay z.natAbs).length;have h3:(2:Nat)^(4*(ay z.natAbs).length)<=2^M:=y9 (by decide) (by lia);exact yT h1 (xB h2 h3)
def mB(h:aM s=0)(hM:2400<=M):Hq M (aI s):=by
 have⟨_,h1,h2⟩:=CE h
 exact⟨Bt h1 (by lia),Bt (z:=((aI s).den:Int)) (by rw[wA];exact h2) (by lia)⟩
noncomputable def iI(s:List Nat)(least:Int):Int:=if aM s=0 then (if cA (aI s).num<least then 3 else 0) else aM s
def Y3{m:Int}(h:iI s m=0):aM s=0/\m<=cA (aI s).num:=by
 unfold iI at h
 grind
abbrev qR(x y:List Nat):AV:=.agg [.str x,.str y]
instance (k:Nat) (z:Int):Decidable (Bd k z):=inferInstanceAs (Decidable (z.natAbs<2^k))
def am0:RT 0=[48]:=by decide
def mc:Rat:=⟨1,2,by decide,by decide⟩
def am1:RT mc=[49,47,50]:=by decide
def B6:Hq 2 0:=⟨by decide,by decide⟩
def B7:Hq 2 1:=⟨by decide,by decide⟩
def Vm:Hq 2 mc:=⟨by decide,by decide⟩
def axD(h:RT a=[48]):a=0:=by
 unfold RT at h;have hp:=Bv a.den;by_cases hd:a.den=1
 .rw [yK hd,wh] at h;by_cases h0:a.num<0
  .rw [mZ h0] at h;simp at h
  .obtain ⟨m,hm⟩:∃m:Nat,a.num=m:=⟨a.num.toNat,by lia⟩;rw[hm,nS] at h;have hv:=Bs m;rw[h] at hv;have hv:Ix 0=Ix m:=hv
   have:m=0:=by simp_all
   simp_all
 .rw [yx hd] at h;have hl:=congrArg tK h
  grind
def aAF(a:Rat):cU (RT a) [48]=decide (a=0):=by
 by_cases h:a=0
 .subst h;exact ZF am0
 .rw [xn h];exact sA (fun e=>h (axD e))
structure S0(P:aJ)(L:Lib):Prop extends Rm P L where
 WO:Has P L 42 V3
 B5:Has P L 261 Ka
 aFb:Has P L 306 aa0
 aFc:Has P L 307 aa1
 aFd:Has P L 308 aa2
 aFe:Has P L 314 OZ
def am2(h:S0 P L)(hl:s.length<=1000000000)(m:Int):ah P L 314 [.str s,aa m] (aa (iI s m)):=by
 have e1:=Vk h.toRm (wM hl (by decide));unfold ah at e1 ⊢;rw[aB h.aFe];unfold iI;by_cases h0:aM s=0
 .have ⟨h1,_⟩:=CE h0;have e2:=aai h.toRm (mB h0 (ym 2400)) (by lia);rw[<-h1] at e2;rw[h0] at e1;unfold ah at e2;rw[yK h0];by_cases h2:cA (aI s).num<m
  .rw [yK h2];simp only[go_sem,ya,OZ,e1,yo,e2,h2]
  .rw [yx h2];simp only[go_sem,ya,OZ,e1,yo,e2,h2]
 .rw [yx h0];simp only[go_sem,ya,OZ,e1,h0,yp]
def am3(h:S0 P L)(hl:s.length<=1000000000):ah P L 307 [.str s] (aa (iI s 0)):=by
 have e1:=am2 h hl 0;unfold ah at e1 ⊢;rw[aB h.aFc];simp only[go_sem,ya,aa1,e1]
def abR(h:S0 P L)(hx:x.length<=1000000000)(hy:y.length<=1000000000):ah P L 308 [qR x y] (aa (a6 [aM x,aM y])):=by
 have e1:=aCx h.toRm h.B5 (Gr ycO [x,y]) (by simp) (fun s hs=>by simp at hs;rcases hs with rfl | rfl<;>assumption)
 simp only[yB,yI,yd,yb,yS,wu] at e1;unfold ah at e1 ⊢;rw[aB h.aFd];simp only[go_sem,ya,yb,yA,yi,yf,aa2,aG,aZ,yd,cD,e1]
def aFf(h:S0 P L)(hx:x.length<=1000000000)(hy:y.length<=1000000000)(hs:s.length<=1000000000):ah P L 306 [.agg [.str x,.str y,.str s]] (aa (a6 [a6 [aM x,aM y],iI s 0])):=by
 have e1:=abR h hx hy;have e2:=am3 h hs;have e3:=s42 h.WO (fZ ycO [a6 [aM x,aM y],iI s 0]) (by simp);simp only[yB,yI,yd,yb,yS,wu] at e3;unfold ah at e1 e2 ⊢;rw[aB h.aFb];simp only[go_sem,ya,yb,yA,yi,yf,aa0,a7,aG,aZ,yd,gH,e1,e2,show xK 2 [AV.str x,.str y,.str s]=[.str s] from rfl,e3]
def aFg(h:Rp P L)(abS:Has P L 315 UR){b:Rat}(ka:Hq K a)(kb:Hq M b)(hK:K+M+1<=8000000000):ah P L 315 [.str (RT a),.str (RT b)] (aa (cA (a-b).num)):=by
 have e1:=aak h ka kb hK;have e2:=aai h.toRm (ka.sub kb) hK;unfold ah at e1 e2 ⊢;rw[aB abS];simp only[go_sem,ya,UR,e1,e2]
def abT(h:Rn P L)(HA:Has P L 319 O0)(ka:Hq K a)(hK:K+2<=8000000000):ah P L 319 [.str (RT a)] (.str (RT (a*mc))):=by
 have e1:=aaj h ka Vm hK;rw[am1] at e1;unfold ah at e1 ⊢;rw[aB HA];simp only[go_sem,ya,O0,e1]
end
end
def ahB(a b:Rat):Kn a b<0↔a<b:=by
 unfold Kn
 grind
abbrev mr(x y s:List Nat):AV:=.agg [.str x,.str y,.str s]
def N4(hs h:Rat):Bool:=decide (hs=0)||decide (h<hs)
def nf(hs h:Rat):Rat:=if hs=0 then 1 else 1-h/hs
def X0(ks:Hq K hs)(kh:Hq M hh):Hq (K+M+3) (nf hs hh):=by
 unfold nf
 split
 .exact B7.mono (by lia)
 .exact (B7.sub (kh.div ks)).mono (by lia)
section
variable {a b w x y z:AV}{tm:Env}{s:List Nat}
def zg(v:AV)(a b:Rat):Prop:=∃s1 w1 s2 w2 s3 w3 s4 w4,v=.agg [aa s1,w1,aa s2,w2,aa s3,w3,aa s4,w4]/\dD s1 w1 a.num/\dD s2 w2 (a.den:Int)/\dD s3 w3 b.num/\dD s4 w4 (b.den:Int)
section
variable {s1 s2 s3 s4:Int}{w1 w2 w3 w4:AV}{l1 l2 l3 l4:List Nat}
def TR(h1:bL w1 l1)(h2:bL w2 l2)(h3:bL w3 l3)(h4:bL w4 l4)(hp:Hp)(ct id:Nat)(a b c d e f g h:AV):fN hp ct id 0 8 [.int .i64 s1,w1,.int .i64 s2,w2,.int .i64 s3,w3,.int .i64 s4,w4] (Ix (.cells ycO ycO ycO 8 [a,b,c,d,e,f,g,h]))=Ix (.ax [],aV hp id (.cells ycO ycO ycO 8 [.int .i64 s1,w1,.int .i64 s2,w2,.int .i64 s3,w3,.int .i64 s4,w4]),ct):=by
 rw[mb (by rfl) (by simp) (by simp[bP,h1.one,h2.one,h3.one,h4.one,I0])];simp[aD,h1.pu,h2.pu,h3.pu,h4.pu,over,GQ]
def TS(h1:bL w1 l1)(h2:bL w2 l2)(h3:bL w3 l3)(h4:bL w4 l4)(hp:Hp):result hp (.agg [aa s1,w1,aa s2,w2,aa s3,w3,aa s4,w4])=Ix (.agg [aa s1,w1,aa s2,w2,aa s3,w3,aa s4,w4]):=by
 rcases h1 with ⟨rfl,_⟩ | ⟨e,rfl⟩<;>rcases h2 with ⟨rfl,_⟩ | ⟨e',rfl⟩<;>rcases h3 with ⟨rfl,_⟩ | ⟨e,rfl⟩<;>rcases h4 with ⟨rfl,_⟩ | ⟨e',rfl⟩<;>rfl
def Y4{c d:AV}{r:List (Nat×Nat×X)}(h1:bF a=ycO)(h2:bF b=ycO)(h3:bF c=ycO)(h4:bF d=ycO):iH tm [x',y',z',w',x,y,z,w] 0 4 [a,b,c,d] r=fill tm [a,b,c,d,x,y,z,w] r:=by
 rw[pP (by rfl) (by simp) (by simp[bP,h1,h2,h3,h4])];rfl
def Y5{c d:AV}{r:List (Nat×Nat×X)}(h1:bF a=ycO)(h2:bF b=ycO)(h3:bF c=ycO)(h4:bF d=ycO):iH tm [x,y,z,w,x',y',z',w'] 4 4 [a,b,c,d] r=fill tm [x,y,z,w,a,b,c,d] r:=by
 rw[pP (by rfl) (by simp) (by simp[bP,h1,h2,h3,h4])];rfl
def axE{r:List (Nat×Nat×X)}(h1:bF a=ycO)(h2:bF b=ycO):iH tm [x,y,z] 0 2 [a,b] r=fill tm [a,b,z] r:=by
 rw[pP (by rfl) (by simp) (by simp[bP,h1,h2])];rfl
def JP(a b c d e f g h:AV):gJ 8 ycO [a,b,c,d,e,f,g,h]=Ix (.agg [a,b,c,d,e,f,g,h]):=rfl
def gO(a b c d:AV)(r:List AV):gJ 4 ycO (a::b::c::d::r)=Ix (.agg [a,b,c,d]):=rfl
def kP(a b c:AV)(r:List AV):gJ 3 ycO (a::b::c::r)=Ix (.agg [a,b,c]):=rfl
def CM(a b c d e f g h:AV):xK 4 [a,b,c,d,e,f,g,h]=[e,f,g,h]:=rfl
def Ei(a b c:AV):xK 2 [a,b,c]=[c]:=rfl
end
structure Sp(P:aJ)(L:Lib):Prop extends Ck P L where
 jn:Has P L 31 Cj
 oK:Has P L 33 KR
 h53:Has P L 53 c53
 h54:Has P L 54 c54
 h60:Has P L 60 c60
 Ih:Has P L 61 Cl
 VL:Has P L 63 P0
 Cs:Has P L 64 V8
 h65:Has P L 65 c65
 h68:Has P L 68 c68
 h75:Has P L 75 c75
 aFh:Has P L 112 aaS
 aJL:Has P L 113 alZ
 aJM:Has P L 114 al0
def WT(h:Sp P L){x y:List Nat}(hx:x.length<=1000000000)(hy:y.length<=1000000000):ah P L 53 [qR x y] (aa (a6 [aM x,aM y])):=by
 have e1:=Il h.toCk hx;have e2:=Il h.toCk hy;have e3:=sT h.oK (fZ ycO [aM x,aM y]) (by simp);simp only[yB,yI,yd,yb,yS,wu] at e3;unfold ah at e1 e2 ⊢;rw[aB h.h53];simp only[go_sem,ya,yb,yA,yi,yf,c53,aG,aZ,yd,cD,e1,e2,e3]
def AW(h:Sp P L)(h0:aM s=0):∃r,ah P L 62 [.str s] r/\bE r (aI s):=by
 have⟨hR,_⟩:=CE h0;have kr:=mB h0 (ym 2400);have hl:=BI kr;have⟨r,e,hr⟩:=m62 h.toTx (a:=aI s) (by lia)
 grind
def m61(h:Sp P L)(hl:s.length<=1000000000)(m:Int):ah P L 61 [.str s,aa m] (aa (iI s m)):=by
 have e1:=Il h.toCk hl;unfold ah at e1 ⊢;rw[aB h.Ih];unfold iI;by_cases h0:aM s=0
 .have ⟨r,e2,hr⟩:=AW h h0;have e3:=abv h.toFr' hr;obtain⟨s1,w1,s2,w2,rfl,h1,h2⟩:=hr;have⟨l1,u1⟩:=h1.aH;have⟨l2,u2⟩:=h2.aH;rw[h0] at e1;rw[yK h0];have e4:=fun b=>rP h.jn b 3
  by_cases hm:cA (aI s).num<m
  .rw [yK hm];have e5:=e4 ycO;simp only[xL] at e5;simp only[go_sem,ya,Cl,e1,yo,yM,e2,bf,a7,u1.af,u2.af,e3,hm,e5]
  .rw [yx hm];have e5:=e4 ycP;simp only[yH,xr] at e5;simp only[go_sem,ya,Cl,e1,yo,yM,e2,bf,a7,u1.af,u2.af,e3,hm,yp,e5]
 .rw [yx h0];simp only[go_sem,ya,Cl,e1,h0,yp,yQ]
def m60(h:Sp P L){x y:List Nat}(hx:x.length<=1000000000)(hy:y.length<=1000000000)(hs:s.length<=1000000000):ah P L 60 [mr x y s] (aa (a6 [a6 [aM x,aM y],iI s 0])):=by
 have e1:=WT h hx hy;have e2:=m61 h hs 0;have e3:=sT h.oK (fZ ycO [a6 [aM x,aM y],iI s 0]) (by simp);simp only[yB,yI,yd,yb,yS,wu] at e3;unfold ah at e1 e2 ⊢;rw[aB h.h60];simp only[go_sem,ya,yb,yA,yi,yf,c60,a7,aG,aZ,yd,gH,e1,e2,Ei,e3]
def aCy(a b c d e f:List Nat):mf (.ag [2,2,2]) (mr a b c) (mr d e f)=Ix (cU a d&&(cU b e&&cU c f)):=by
 show eU [2,2,2] [.str a,.str b,.str c] [.str d,.str e,.str f]=_
 simp only[eU]
 grind
def agw(a:List Nat):cU a a=ycO:=No rfl
def m68(h:Sp P L)(x y s:List Nat):ah P L 68 [mr x y s] (.bool (cU s [48])):=by
 unfold ah;rw[aB h.h68];simp only[go_sem,ya,yb,yi,c68,aG,aZ,yd,gH,kP,axE,aCy,eV,agw,xQ]
def WU(h:Sp P L){x y:List Nat}(hx:aM x=0)(hy:aM y=0):∃r,ah P L 54 [qR x y] r/\zg r (aI x) (aI y):=by
 have⟨p,e1,hp⟩:=AW h hx;have⟨q,e2,hq⟩:=AW h hy;obtain⟨s1,w1,s2,w2,rfl,h1,h2⟩:=hp;obtain⟨s3,w3,s4,w4,rfl,h3,h4⟩:=hq;have⟨l1,u1⟩:=h1.aH;have⟨l2,u2⟩:=h2.aH;have⟨l3,u3⟩:=h3.aH;have⟨l4,u4⟩:=h4.aH;refine⟨_,?_,s1,w1,s2,w2,s3,w3,s4,w4,rfl,h1,h2,h3,h4⟩;unfold ah at e1 e2 ⊢;rw[aB h.h54];simp only[go_sem,ya,yb,c54,aG,aZ,yd,cD,e1,e2,bf,u1.one,u2.one,u3.one,u4.one,Y4,Y5,TR u1 u2 u3 u4,de,df,yh,JP,TS u1 u2 u3 u4]
def WV(h:Sp P L){a b t:Rat}(hv:zg v a b)(hw:bE w t)(ka:Hq K a)(kb:Hq K b)(kt:Hq K t)(hK:K<=10000000000):∃r,ah P L 75 [v,w] r/\zg r (a*t) (b*t):=by
 obtain⟨s1,w1,s2,w2,s3,w3,s4,w4,rfl,h1,h2,h3,h4⟩:=hv;have⟨p,e1,hp⟩:=zb h.toFr' ⟨s1,w1,s2,w2,rfl,h1,h2⟩ hw ka kt hK;have⟨q,e2,hq⟩:=zb h.toFr' ⟨s3,w3,s4,w4,rfl,h3,h4⟩ hw kb kt hK;obtain⟨s5,w5,s6,w6,rfl,h5,h6⟩:=hw;obtain⟨x1,y1,x2,y2,rfl,g1,g2⟩:=hp;obtain⟨x3,y3,x4,y4,rfl,g3,g4⟩:=hq;have⟨l1,u1⟩:=h1.aH;have⟨l2,u2⟩:=h2.aH;have⟨l3,u3⟩:=h3.aH;have⟨l4,u4⟩:=h4.aH;have⟨l5,u5⟩:=h5.aH;have⟨l6,u6⟩:=h6.aH;have⟨m1,v1⟩:=g1.aH;have⟨m2,v2⟩:=g2.aH;have⟨m3,v3⟩:=g3.aH;have⟨m4,v4⟩:=g4.aH;refine⟨_,?_,x1,y1,x2,y2,x3,y3,x4,y4,rfl,g1,g2,g3,g4⟩;unfold ah at e1 e2 ⊢;rw[aB h.h75]
 simp only[go_sem,ya,yb,c75,aG,aZ,yd,CM,gO,a7,u1.pu,u1.af,u1.one,u2.pu,u2.af,u2.one,u3.pu,u3.af,u3.one,u4.pu,u4.af,u4.one,u5.pu,u5.af,u5.one,u6.pu,u6.af,u6.one,v1.one,v2.one,v3.one,v4.one,e1,e2,bf,Y4,Y5,TR v1 v2 v3 v4,de,df,yh,JP,TS v1 v2 v3 v4]
def abU(h:Sp P L){a b c d:Rat}(hv:zg v a b)(hw:zg w c d)(ka:Hq K a)(kb:Hq K b)(kc:Hq K c)(kd:Hq K d)(hK:K<=10000000000):∃r,ah P L 112 [v,w] r/\zg r (a+c) (b+d):=by
 obtain⟨s1,w1,s2,w2,s3,w3,s4,w4,rfl,h1,h2,h3,h4⟩:=hv;obtain⟨s5,w5,s6,w6,s7,w7,s8,w8,rfl,h5,h6,h7,h8⟩:=hw;have⟨p,e1,hp⟩:=FL h.toFr' ⟨s1,w1,s2,w2,rfl,h1,h2⟩ ⟨s5,w5,s6,w6,rfl,h5,h6⟩ ka kc hK;have⟨q,e2,hq⟩:=FL h.toFr' ⟨s3,w3,s4,w4,rfl,h3,h4⟩ ⟨s7,w7,s8,w8,rfl,h7,h8⟩ kb kd hK;obtain⟨x1,y1,x2,y2,rfl,g1,g2⟩:=hp;obtain⟨x3,y3,x4,y4,rfl,g3,g4⟩:=hq;have⟨l1,u1⟩:=h1.aH;have⟨l2,u2⟩:=h2.aH;have⟨l3,u3⟩:=h3.aH;have⟨l4,u4⟩:=h4.aH;have⟨l5,u5⟩:=h5.aH;have⟨l6,u6⟩:=h6.aH;have⟨l7,u7⟩:=h7.aH;have⟨l8,u8⟩:=h8.aH;have⟨m1,v1⟩:=g1.aH;have⟨m2,v2⟩:=g2.aH;have⟨m3,v3⟩:=g3.aH;have⟨m4,v4⟩:=g4.aH;refine⟨_,?_,x1,y1,x2,y2,x3,y3,x4,y4,rfl,g1,g2,g3,g4⟩;unfold ah at e1 e2 ⊢;rw[aB h.aFh]
 simp only[go_sem,ya,yb,aaS,aG,aZ,yd,CM,gO,a7,u1.pu,u1.af,u1.one,u2.pu,u2.af,u2.one,u3.pu,u3.af,u3.one,u4.pu,u4.af,u4.one,u5.pu,u5.af,u5.one,u6.pu,u6.af,u6.one,u7.pu,u7.af,u7.one,u8.pu,u8.af,u8.one,v1.one,v2.one,v3.one,v4.one,e1,e2,bf,Y4,Y5,TR v1 v2 v3 v4,de,df,yh,JP,TS v1 v2 v3 v4]
end
section
variable {s x y:List Nat}
structure F4(c1 c2 c3 c4:AV):Prop where
 af:∀(n:Nat) (hp:Hp),freeze (n+20) hp (.agg [c1,c2,c3,c4])=Ix (.agg [c1,c2,c3,c4],hp)
 eG:∀hp:Hp,result hp (.agg [c1,c2,c3,c4])=Ix (.agg [c1,c2,c3,c4])
 st:∀(hp:Hp) (ct id:Nat) (a b c d:AV),fN hp ct id 0 4 [c1,c2,c3,c4] (Ix (.cells ycO ycO ycO 4 [a,b,c,d]))=Ix (.ax [],aV hp id (.cells ycO ycO ycO 4 [c1,c2,c3,c4]),ct)
 bx:∀ct:Nat,E7 ct 4 [c1,c2,c3,c4]=Ix (.ptr ct 0,.cells ycO ycO ycO 4 [c1,c2,c3,c4])
 o1:bF c1=ycO
 o2:bF c2=ycO
 o3:bF c3=ycO
 o4:bF c4=ycO
 pu:aP (.agg [c1,c2,c3,c4])=ycO
 z1:∀(n:Nat) (hp:Hp),freeze (n+1) hp c1=Ix (c1,hp)
 z2:∀(n:Nat) (hp:Hp),freeze (n+1) hp c2=Ix (c2,hp)
 z3:∀(n:Nat) (hp:Hp),freeze (n+1) hp c3=Ix (c3,hp)
 z4:∀(n:Nat) (hp:Hp),freeze (n+1) hp c4=Ix (c4,hp)
structure F8(c1 c2 c3 c4 c5 c6 c7 c8:AV):Prop where
 af:∀(n:Nat) (hp:Hp),freeze (n+20) hp (.agg [c1,c2,c3,c4,c5,c6,c7,c8])=Ix (.agg [c1,c2,c3,c4,c5,c6,c7,c8],hp)
 eG:∀hp:Hp,result hp (.agg [c1,c2,c3,c4,c5,c6,c7,c8])=Ix (.agg [c1,c2,c3,c4,c5,c6,c7,c8])
 st:∀(hp:Hp) (ct id:Nat) (a b c d e f g h:AV),fN hp ct id 0 8 [c1,c2,c3,c4,c5,c6,c7,c8] (Ix (.cells ycO ycO ycO 8 [a,b,c,d,e,f,g,h]))=Ix (.ax [],aV hp id (.cells ycO ycO ycO 8 [c1,c2,c3,c4,c5,c6,c7,c8]),ct)
 bx:∀ct:Nat,E7 ct 8 [c1,c2,c3,c4,c5,c6,c7,c8]=Ix (.ptr ct 0,.cells ycO ycO ycO 8 [c1,c2,c3,c4,c5,c6,c7,c8])
def bE.gen{a:Rat}(h:bE v a):∃c1 c2 c3 c4,v=.agg [c1,c2,c3,c4]/\F4 c1 c2 c3 c4:=by
 obtain⟨s1,w1,s2,w2,rfl,h1,h2⟩:=h;have⟨l1,u1⟩:=h1.aH;have⟨l2,u2⟩:=h2.aH;refine⟨_,_,_,_,rfl,fun n hp=>?_,oW u1 u2,fun hp ct id a b c d=>om u1 u2 hp ct id a b c d,fun ct=>by simp only[go_sem,yb,aG,u1.pu,u1.one,u2.pu,u2.one],rfl,u1.one,rfl,u2.one,by simp[aP,aD,u1.pu,u2.pu],fun _ _=>rfl,fun n _=>u1.af n,fun _ _=>rfl,fun n _=>u2.af n⟩;exact a7 _ _ (by simp only[go_sem,u1.af,u2.af])
def zg.gen{a b:Rat}(h:zg v a b):∃c1 c2 c3 c4 c5 c6 c7 c8,v=.agg [c1,c2,c3,c4,c5,c6,c7,c8]/\F8 c1 c2 c3 c4 c5 c6 c7 c8:=by
 obtain⟨s1,w1,s2,w2,s3,w3,s4,w4,rfl,h1,h2,h3,h4⟩:=h;have⟨l1,u1⟩:=h1.aH;have⟨l2,u2⟩:=h2.aH;have⟨l3,u3⟩:=h3.aH;have⟨l4,u4⟩:=h4.aH;refine⟨_,_,_,_,_,_,_,_,rfl,fun n hp=>?_,TS u1 u2 u3 u4,fun hp ct id a b c d e f g h=>TR u1 u2 u3 u4 hp ct id a b c d e f g h,fun ct=>by simp only[go_sem,yb,aG,u1.pu,u1.one,u2.pu,u2.one,u3.pu,u3.one,u4.pu,u4.one]⟩;exact a7 _ _ (by simp only[go_sem,u1.af,u2.af,u3.af,u4.af])
def Y6{a b:Int}:a6 [a,b]=0↔a=0/\b=0:=by
 simp only[a6]
 grind
noncomputable def zQ(x y s:List Nat):Int:=a6 [a6 [aM x,aM y],iI s 0]
def au8(h:zQ x y s=0):aM x=0/\aM y=0/\aM s=0/\0<=cA (aI s).num:=by
 have⟨h1,h2⟩:=Y6.1 h;have⟨h3,h4⟩:=Y6.1 h1;have⟨h5,h6⟩:=Y3 h2
 grind
def nat_eq(h:aM s=0):cU s [48]=decide (aI s=0):=by
 have:=aAF (aI s)
 rwa[<-(CE h).1] at this
def m63(h:Sp P L){w:AV}(hs:aM s=0)(hw:bE w hh)(kh:Hq K hh)(hK:K<=1000000000):ah P L 63 [mr x y s,w] (.bool (N4 (aI s) hh)):=by
 have e1:=m68 h x y s;rw[nat_eq hs] at e1;have⟨r,e2,hr⟩:=AW h hs;have e3:=m71 h.toFr' hw hr (kh.mono (show K<=K+2400 by lia)) ((mB hs (ym 2400)).mono (show 2400<=K+2400 by lia)) (by lia);obtain⟨s1,w1,s2,w2,rfl,h1,h2⟩:=hw;obtain⟨s3,w3,s4,w4,rfl,h3,h4⟩:=hr;have⟨l1,u1⟩:=h1.aH;have⟨l2,u2⟩:=h2.aH;have⟨l3,u3⟩:=h3.aH;have⟨l4,u4⟩:=h4.aH;unfold N4;unfold ah at e1 e2 e3 ⊢;rw[aB h.VL];by_cases h0:aI s=0
 .rw [xG h0] at e1 ⊢;simp only[go_sem,ya,yb,P0,a7,aG,kP,u1.pu,u1.one,u2.pu,u2.one,e1,yar]
 .rw [xn h0] at e1 ⊢;by_cases hb:hh<aI s
  .have:=(ahB _ _).2 hb
   rw[xG hb];simp only[go_sem,ya,yb,P0,a7,aG,kP,u1.pu,u1.af,u1.one,u2.pu,u2.af,u2.one,u3.af,u4.af,e1,gO,aZ,yd,Ei,e2,bf,e3,this,yo,vS]
  .have:¬Kn hh (aI s)<0:=fun e=>hb ((ahB _ _).1 e)
   rw[xn hb];simp only[go_sem,ya,yb,P0,a7,aG,kP,u1.pu,u1.af,u1.one,u2.pu,u2.af,u2.one,u3.af,u4.af,e1,gO,aZ,yd,Ei,e2,bf,e3,this,yp,Bool.or_self]
def m64(h:Sp P L){w:AV}(K9:aM dx=0)(hdy:aM dy=0)(hs:aM s=0)(hx:aM x=0)(hy:aM y=0)(hw:bE w hh)(kh:Hq K hh)(hK:K<=100000000):
  ∃r,ah P L 64 [mr dx dy s,w,qR x y] r/\zg r (nf (aI s) hh*aI x+hh*aI dx) (nf (aI s) hh*aI y+hh*aI dy):=by
 have e1:=m68 h dx dy s;rw[nat_eq hs] at e1;have kx:=(mB hx (ym 2400));have ky:=(mB hy (ym 2400));have kdx:=(mB K9 (ym 2400));have kdy:=(mB hdy (ym 2400));have ks:=(mB hs (ym 2400));obtain⟨M,hM⟩:∃M,M=2*K+8000:=⟨_,rfl⟩;have⟨p,e2,hp⟩:=WU h hx hy;have⟨d,e3,hd⟩:=WU h K9 hdy;have⟨d2,e4,fw⟩:=WV h hd hw (kdx.mono (show 2400<=M by lia)) (kdy.mono (by lia)) (kh.mono (by lia)) (by lia);have ksh:=X0 ks kh;have sum:∀{q:AV},zg q (nf (aI s) hh*aI x) (nf (aI s) hh*aI y)->∃r,ah P L 112 [q,d2] r/\zg r (nf (aI s) hh*aI x+hh*aI dx) (nf (aI s) hh*aI y+hh*aI dy):=fun {q} hq=>by
  have⟨r,e,hr⟩:=abU h hq fw ((ksh.mul kx).mono (show 2400+K+3+2400<=M by lia)) ((ksh.mul ky).mono (by lia)) ((kdx.mul kh).mono (by lia)) ((kdy.mul kh).mono (by lia)) (by lia);rw[ub (aI dx),ub (aI dy)] at hr;exact⟨r,e,hr⟩
 by_cases h0:aI s=0
 .rw [xG h0] at e1;have jU:nf (aI s) hh=1:=by unfold nf;rw[yK h0]
  have⟨r,e5,hr⟩:=sum (q:=p) (by rw[jU,yal,yal];exact hp)
  refine⟨r,?_,hr⟩;obtain⟨w1,w2,w3,w4,rfl,gw⟩:=hw.gen;obtain⟨p1,p2,p3,p4,p5,p6,p7,p8,rfl,gp⟩:=hp.gen;obtain⟨d1,d2',d3,d4,d5,d6,d7,d8,rfl,gd⟩:=hd.gen;obtain⟨f1,f2,f3,f4,f5,f6,f7,f8,rfl,gf⟩:=fw.gen;obtain⟨r1,r2,r3,r4,r5,r6,r7,r8,rfl,gr⟩:=hr.gen;unfold ah at e1 e2 e3 e4 e5 ⊢;rw[aB h.Cs];simp only[go_sem,ya,yb,V8,a7,aG,gH,kP,gO,JP,aZ,yd,gw.bx,gw.af,gp.af,gd.af,gf.af,e1,e2,e3,e4,e5,yM,bf,gp.st,gr.st,de,df,yh,gr.eG]
 .rw [xn h0] at e1;have jU:nf (aI s) hh=1-hh/aI s:=by unfold nf;rw[yx h0]
  have⟨o,e6,ho⟩:=DS h.toFr' (z:=1) (by decide) (by decide);have⟨f,e7,hf⟩:=AW h hs;have⟨g,e8,hg⟩:=WI h.toFr' hw hf h0 (kh.mono (show K<=M by lia)) (ks.mono (by lia)) (by lia);have k1:Hq M ((1:Int):Rat):=B7.mono (by lia);have⟨i,e9,hi⟩:=Lf h.toFr' ho hg k1 ((kh.div ks).mono (by lia)) (by lia);rw[show ((1:Int):Rat)-hh/aI s=nf (aI s) hh from jU.symm] at hi;have⟨q,eA,hq⟩:=WV h hp hi (kx.mono (show 2400<=M by lia)) (ky.mono (by lia)) (ksh.mono (by lia)) (by lia);rw[ub (aI x),ub (aI y)] at hq;have⟨r,e5,hr⟩:=sum hq;refine⟨r,?_,hr⟩;obtain⟨w1,w2,w3,w4,rfl,gw⟩:=hw.gen;obtain⟨p1,p2,p3,p4,p5,p6,p7,p8,rfl,gp⟩:=hp.gen;obtain⟨d1,d2',d3,d4,d5,d6,d7,d8,rfl,gd⟩:=hd.gen;obtain⟨f1,f2,f3,f4,f5,f6,f7,f8,rfl,gf⟩:=fw.gen;obtain⟨r1,r2,r3,r4,r5,r6,r7,r8,rfl,gr⟩:=hr.gen;obtain⟨q1,q2,q3,q4,q5,q6,q7,q8,rfl,gq⟩:=hq.gen;obtain⟨o1,o2,o3,o4,rfl,go⟩:=ho.gen
  obtain⟨x1,x2,x3,x4,rfl,gx⟩:=hf.gen;obtain⟨y1,y2,y3,y4,rfl,gy⟩:=hg.gen;obtain⟨z1,z2,z3,z4,rfl,gz⟩:=hi.gen;unfold ah at e1 e2 e3 e4 e5 e6 e7 e8 e9 eA ⊢;rw[aB h.Cs];simp only[go_sem,ya,yb,V8,a7,aG,gH,kP,gO,JP,aZ,yd,Ei,gw.bx,gw.af,gp.af,gd.af,gf.af,go.af,gx.af,gy.af,gz.af,gq.af,e1,e2,e3,e4,e5,e6,e7,e8,e9,eA,yQ,bf,gp.st,gq.st,gr.st,de,df,yh,gr.eG]
end
section
variable {a b c d:AV}{cs:List AV}{l:List Rat}{x:Rat}
def QL:List AV->List Rat->Prop
 | [],[]=>True
 | a::b::c::d::r,x::l=>bE (.agg [a,b,c,d]) x/\QL r l
 | _,_=>False
def QL.inv(h:QL cs (x::l)):∃a b c d r,cs=a::b::c::d::r/\bE (.agg [a,b,c,d]) x/\QL r l:=by
 match cs,h with
 | a::b::c::d::r,h=>exact⟨a,b,c,d,r,rfl,h.1,h.2⟩
def QL.Pr(h:QL cs []):cs=[]:=by
 match cs,h with
 | [],_=>rfl
 | [_],h=>exact h.elim
 | [_,_],h=>exact h.elim
 | [_,_,_],h=>exact h.elim
 | _::_::_::_::_,h=>exact h.elim
def QL.len:∀{l:List Rat} {cs:List AV},QL cs l->cs.length=l.length*4
 | [],_,h=>by rw[h.Pr];rfl
 | x::l,cs,h=>by
  obtain⟨a,b,c,d,r,rfl,_,h2⟩:=h.inv
  have:=h2.len
  grind
def F4.qS{c1 c2 c3 c4:AV}(g:F4 c1 c2 c3 c4):aP c1=ycO/\aP c2=ycO/\aP c3=ycO/\aP c4=ycO:=by
 have:=g.pu
 simpa only[aP,aD,vV,yj] using this
def bE.f4(h:bE (.agg [a,b,c,d]) x):F4 a b c d:=by
 have⟨_,_,_,_,e,g⟩:=h.gen
 grind
def QL.pu:∀{l:List Rat} {cs:List AV},QL cs l->aD cs=ycO
 | [],_,h=>by rw[h.Pr];rfl
 | x::l,cs,h=>by
  obtain⟨a,b,c,d,r,rfl,h1,h2⟩:=h.inv;have⟨p1,p2,p3,p4⟩:=h1.f4.qS;simp only[aD,p1,p2,p3,p4,h2.pu,xt]
def QL.one:∀{l:List Rat} {cs:List AV},QL cs l->bP cs=ycO
 | [],_,h=>by rw[h.Pr];rfl
 | x::l,cs,h=>by
  obtain⟨a,b,c,d,r,rfl,h1,h2⟩:=h.inv;have g:=h1.f4;simp only[bP,g.o1,g.o2,g.o3,g.o4,h2.one,xt]
def QL.kD:∀{l m:List Rat} {cs ds:List AV},QL cs l->QL ds m->QL (cs++ds) (l++m)
 | [],m,cs,ds,h,k=>by rw[h.Pr];exact k
 | x::l,m,cs,ds,h,k=>by
  obtain⟨a,b,c,d,r,rfl,h1,h2⟩:=h.inv;exact⟨h1,h2.kD k⟩
def QL.snoc(h:QL cs l)(k:bE (.agg [a,b,c,d]) x):QL (cs++[a,b,c,d]) (l++[x]):=h.kD ⟨k,trivial⟩
def QL.get:∀{l:List Rat} {cs:List AV} {i:Nat},QL cs l->∀(hi:i<l.length),∃a b c d r,cs.drop (i*4)=a::b::c::d::r/\bE (.agg [a,b,c,d]) l[i]
 | [],_,i,_,hi=>absurd hi (vh i)
 | x::l,cs,0,h,hi=>by
  obtain⟨a,b,c,d,r,rfl,h1,_⟩:=h.inv
  grind
 | x::l,cs,i+1,h,hi=>by
  obtain⟨a,b,c,d,r,rfl,_,h2⟩:=h.inv;have⟨a',b',c',d',r',e,k⟩:=h2.get (i:=i) (by simpa using hi)
  grind
def cQ(v:AV)(l:List Rat):Prop:=(v=.ae/\l=[])\/∃e cs,v=.aF e l.length cs/\QL cs l
section
variable {v:AV}{l:List Rat}{hp:Hp}
def cQ.len(h:cQ v l){hp:Hp}:fu hp 1 v=Ix (.int .i64 (l.length:Nat)):=by
 rcases h with ⟨rfl,rfl⟩ | ⟨e,cs,rfl,h⟩<;>rfl
def cQ.pu(h:cQ v l):aP v=ycO:=by
 rcases h with ⟨rfl,rfl⟩ | ⟨e,cs,rfl,h⟩<;>rfl
def cQ.af(h:cQ v l)(n:Nat){hp:Hp}:freeze (n+1) hp v=Ix (v,hp):=by
 rcases h with ⟨rfl,rfl⟩ | ⟨e,cs,rfl,h⟩<;>rfl
def cQ.one(h:cQ v l):bF v=ycO:=by
 rcases h with ⟨rfl,rfl⟩ | ⟨e,cs,rfl,h⟩<;>rfl
def cQ.cells(h:cQ v l):cellsOf v=[v]:=by
 rcases h with ⟨rfl,rfl⟩ | ⟨e,cs,rfl,h⟩<;>rfl
def cQ.aT(h:cQ v l){i:Nat}(hi:i<l.length):∃a b c d r,iZ 4 i v=Ix (.aQ (a::b::c::d::r))/\bE (.agg [a,b,c,d]) l[i]:=by
 rcases h with ⟨rfl,rfl⟩ | ⟨e,cs,rfl,h⟩
 .grind
 .have ⟨a,b,c,d,r,e1,e2⟩:=h.get hi;refine⟨a,b,c,d,r,?_,e2⟩;rw[SD e _ hi,e1]
def agx:cQ .ae []:=.inl ⟨rfl,rfl⟩
def Ed(e:Bool)(h:QL cs l):cQ (.aF e l.length cs) l:=.inr ⟨e,cs,rfl,h⟩
end
def Jv{x0 x1 x2 x3:AV}{r:List (Nat×Nat×X)}(h1:bF a=ycO)(h2:bF b=ycO)(h3:bF c=ycO)(h4:bF d=ycO):iH tm [x0,x1,x2,x3] 0 4 [a,b,c,d] r=fill tm [a,b,c,d] r:=by
 rw[pP (by rfl) (by simp) (by simp[bP,h1,h2,h3,h4])];rfl
def oX(dn pu ex:Bool)(a b c d:AV):HX 0 1 4 (Ix (.cells dn pu ex 4 [a,b,c,d]))=Ix (1,[a,b,c,d]):=rfl
def Fi(hp:Hp)(cs:List AV):jx hp 4 ycO (.aQ cs)=gJ 4 ycO cs:=rfl
def z6(s:Rat)(l:List Rat):Rat:=l.foldl (·+·) s
def asU{s:Rat}{i:Nat}(h:i<l.length):z6 s (l.take (i+1))=z6 s (l.take i)+l[i]:=by
 rw[yk h];simp only[z6,List.foldl_append,List.foldl_cons,List.foldl_nil]
def ZG{K:Nat}:∀{l:List Rat} {s:Rat} {M:Nat},Hq M s->(∀x,x∈l->Hq K x)->Hq (M+l.length*(K+1)) (z6 s l)
 | [],s,M,hs,_=>by simpa[z6] using hs
 | x::l,s,M,hs,hl=>by
  have:=ZG (l:=l) (hs.add (hl x xA)) (fun y hy=>hl y (xi _ hy))
  refine Hq.mono (m:=M+(x::l).length*(K+1)) this ?_;simp only[yB,xU];lia
def axF{s:Rat}(hs:Hq M s)(hl:∀x,x∈l->Hq K x)(i:Nat):Hq (M+l.length*(K+1)) (z6 s (l.take i)):=
 (ZG hs (fun x hx=>hl x (List.mem_of_mem_take hx))).mono (by rw[yJ];have:=yR (K+1) (Nat.min_le_right i l.length);lia)
end
def aFi(Dm:Has P L 150 J7){z:Int}(hv:cM v z)(h1: -9223372036854775808<z)(h2:z<9223372036854775808):ah P L 150 [v] (.ax [aa z,.bool ycO]):=by
 obtain⟨s,w,rfl,hn⟩:=hv;rcases hn with ⟨rfl,rfl,_,_⟩ | ⟨e,l,rfl,g,n,hb,hs,h3⟩
 .unfold ah;rw[aB Dm];simp only[go_sem,ya,yb,J7,aG,aZ,yd,cD,jd,eV];rfl
 .lia
def Yy{a:Rat}(h:Hq K a)(hK:1<=K):Hq K ((a.floor:Int):Rat):=by
 refine⟨?_,?_⟩
 .exact h.1.le (by
   rw[vY,ycq]
   exact Int.natAbs_ediv_le_natAbs _ _)
 .rw [uz];exact vO (by lia)
def asV(n:Int){s:Int}(hs:0<s):((n:Rat)-(s:Rat)*(((n:Rat)/(s:Rat)).floor:Int))=((n%s:Int):Rat):=by
 have h1:(n:Rat)/(s:Rat)=wW n s:=(Rat.divInt_eq_div n s).symm;have h2:((n:Rat)/(s:Rat)).floor=n/s:=by
  rw[h1];have⟨p1,p2⟩:=MB (a:=n) hs;have hg:=Nk (a:=n) hs;rw[ycq,p1,p2];have e1:=ajy n s;have e2:=ajz n s;show dE n s/dI n s=n/s
  have e3:=Int.mul_ediv_mul_of_pos (dE n s) (dI n s) hg
  grind
 rw[h2,Int.emod_def]
 grind
def am4(h:Fr' P L)(HB:Has P L 103 OD)(Dm:Has P L 150 J7){a:Rat}{s:Int}(hv:bE v a)(ka:Hq K a)(hK0:100<=K)(hK:K<=1000000000)(qF:0<s)(hs:s<1000000):
  ∃f,ah P L 103 [v,aa s] (.ax [aa (a.floor%s),f])/\bE f (a-(a.floor:Int)):=by
 have⟨p,e1,hp⟩:=amz h hv ka (by lia);have⟨w,e2,hw⟩:=Ph h hp;have⟨n,e3,hn⟩:=DS h (z:=s) (by lia) (by lia);have kf:=Yy ka (by lia);have hsb:s.natAbs<2^64:=by lia
 have ks:Hq K (s:Rat):=⟨by rw[vY];exact yT hsb (y9 (by decide) (by lia)),by rw[uz];exact vO (by lia)⟩
 have aFj:(s:Rat)≠0:=fun e=>by
  have:=congrArg Rat.num e
  have:s=0:=this
  lia
 have⟨d,e4,hd⟩:=WI h hw hn aFj kf ks (by lia);have kd:=kf.div ks;have⟨g,e5,hg⟩:=amz h hd kd (by lia);have⟨gw,e6,zh⟩:=Ph h hg;have kg:=Yy kd (by lia);have⟨mu,e7,hmu⟩:=zb h hn zh (ks.mono (show K<=K+K by lia)) kg (by lia);have⟨r,e8,hr⟩:=Lf h hw hmu (kf.mono (show K<=K+(K+K) by lia)) (ks.mul kg) (by lia);rw[asV _ qF] at hr;have⟨f,e9,hf⟩:=Lf h hv hw ka kf (by lia);have AQ:=wV a.floor (show s≠0 by lia);have aJw:=Int.emod_lt_of_pos a.floor qF;refine⟨f,?_,hf⟩;obtain⟨v1,v2,v3,v4,rfl,gv⟩:=hv.gen;obtain⟨w1,w2,w3,w4,rfl,gw'⟩:=hw.gen;obtain⟨n1,n2,n3,n4,rfl,gn⟩:=hn.gen;obtain⟨d1,d2,d3,d4,rfl,gd⟩:=hd.gen;obtain⟨x1,x2,x3,x4,rfl,gx⟩:=zh.gen;obtain⟨y1,y2,y3,y4,rfl,gy⟩:=hmu.gen;obtain⟨f1,f2,f3,f4,rfl,gf⟩:=hf.gen;obtain⟨ps,pw,rfl,aq⟩:=hp;obtain⟨gs,gw2,rfl,Ik⟩:=hg;have⟨lp,up⟩:=aq.aH;have⟨lg,ug⟩:=Ik.aH;have⟨r1,r2,r3,r4,Fz,bQ,ep⟩:=hr
 subst Fz;have⟨l1,u1⟩:=bQ.aH;have⟨l2,u2⟩:=ep.aH;rw[vY] at bQ;have DV:=aFi (P:=P) (L:=L) Dm ⟨r1,r2,rfl,bQ⟩ (by lia) (by lia);unfold ah at e1 e2 e3 e4 e5 e6 e7 e8 e9 DV ⊢;rw[aB HB];simp only[go_sem,ya,yb,OD,gv.bx,gv.af,gw'.af,gn.af,gd.af,gx.af,gy.af,a7,up.af,ug.af,u1.af,aG,aZ,yd,gO,gH,e1,e2,e3,e4,e5,e6,e7,e8,e9,DV,bf,gw'.st,om u1 u2,gf.st,de,df,yh];have Dn:∀i:Int,I6 [aa i,AV.agg [f1,f2,f3,f4]]=Ix []:=fun i=>by
  simp only[I6,gf.pu,GQ,yN]
 have iz:∀(hp:Hp) (i:Int),CG deep hp [aa i,AV.agg [f1,f2,f3,f4]]=Ix ([aa i,AV.agg [f1,f2,f3,f4]],hp):=fun hp i=>by
  have e1:AE deep hp (aa i)=Ix (aa i,hp):=rfl;have e2:AE deep hp (.agg [f1,f2,f3,f4])=Ix (.agg [f1,f2,f3,f4],hp):=gf.af 980 hp;simp only[CG,e1,e2]
 simp only[result,Dn,iz]
def Y7{x dx:Rat}(ks:Hq K hs)(kh:Hq K hh)(kx:Hq K x)(kd:Hq K dx):Hq (5*K+10) (nf hs hh*x+hh*dx):=
 (((X0 ks kh).mul kx).add (kh.mul kd)).mono (by lia)
def Kr(sc f o w:Rat)(fr:Int):Rat:=sc*f+1*o+(fr:Rat)*w
def aAG{sc f o w:Rat}{J:Nat}(ks:Hq K sc)(kf:Hq J f)(ko:Hq K o)(kw:Hq K w)(iz:fr.natAbs<2^64)(hK:100<=K):Hq (4*K+J+100) (Kr sc f o w fr):=by
 have Io:Hq 64 (fr:Rat):=⟨by rw[vY];exact iz,by rw[uz];exact vO (by lia)⟩
 exact (((ks.mul kf).add (B7.mul ko)).add (Io.mul kw)).mono (by lia)
def am5(h:Sp P L)(Vn:Has P L 116 Ux){scr st:AV}(o1:bF scr=ycO)(p1:aP scr=ycO)(o2:bF st=ycO)(p2:aP st=ycO){s hh sc ox oy wx wy x y:List Nat}(cdx:aM dx=0)(cdy:aM dy=0)(cs:aM s=0)(ch:aM hh=0)(Mt:aM sc=0)(cox:aM ox=0)(coy:aM oy=0)(cwx:aM wx=0)(cwy:aM wy=0)(cx:aM x=0)(cy:aM y=0)(KM: -9223372036854775808<=fr)(kI:fr<9223372036854775808):
  ∃r,ah P L 116 [.agg [scr,.str hh,.str sc,st,.str ox,.str oy,.str wx,.str wy],mr dx dy s,qR x y,aa fr] r/\
   zg r (Kr (aI sc) (nf (aI s) (aI hh)*aI x+aI hh*aI dx) (aI ox) (aI wx) fr) (Kr (aI sc) (nf (aI s) (aI hh)*aI y+aI hh*aI dy) (aI oy) (aI wy) fr):=by
 have H:=fun {t:List Nat} (c:aM t=0)=>mB c (ym 2400)
 obtain⟨M,hM⟩:∃M,M=100000:=⟨_,rfl⟩;have⟨a,e1,ha⟩:=AW h ch;have⟨b,e2,hb⟩:=m64 h cdx cdy cs cx cy ha (H ch) (by lia);have⟨c,e3,hc⟩:=AW h Mt;have kf1:=Y7 (H cs) (H ch) (H cx) (H cdx);have kf2:=Y7 (H cs) (H ch) (H cy) (H cdy);have⟨d,e4,hd⟩:=WV h hb hc (kf1.mono (show 5*2400+10<=M by lia)) (kf2.mono (by lia)) ((H Mt).mono (by lia)) (by lia);rw[ub _ (aI sc),ub _ (aI sc)] at hd;have⟨o,e5,ho⟩:=WU h cox coy;have⟨f,e6,hf⟩:=abU h hd ho (((H Mt).mul kf1).mono (show 2400+(5*2400+10)<=M by lia)) (((H Mt).mul kf2).mono (by lia)) ((H cox).mono (by lia)) ((H coy).mono (by lia)) (by lia);have⟨g,e7,hg⟩:=WU h cwx cwy;have⟨i,e8,hi⟩:=DS h.toFr' KM kI;have Io:Hq 64 (fr:Rat):=⟨by rw[vY];unfold Bd;lia,by rw[uz];exact vO (by lia)⟩
 have⟨j,e9,hj⟩:=WV h hg hi ((H cwx).mono (show 2400<=M by lia)) ((H cwy).mono (by lia)) (Io.mono (by lia)) (by lia);rw[ub _ (fr:Rat),ub _ (fr:Rat)] at hj;have⟨r,DV,hr⟩:=abU h hf hj ((((H Mt).mul kf1).add (H cox)).mono (show 2400+(5*2400+10)+2400+1<=M by lia)) ((((H Mt).mul kf2).add (H coy)).mono (by lia)) ((Io.mul (H cwx)).mono (by lia)) ((Io.mul (H cwy)).mono (by lia)) (by lia);have bt:=hr;refine⟨r,?_,by unfold Kr;rw[yal,yal];exact bt⟩
 obtain⟨a1,a2,a3,a4,rfl,ga⟩:=ha.gen;obtain⟨b1,b2,b3,b4,b5,b6,b7,b8,rfl,gb⟩:=hb.gen;obtain⟨c1,c2,c3,c4,rfl,gc⟩:=hc.gen;obtain⟨d1,d2,d3,d4,d5,d6,d7,d8,rfl,gd⟩:=hd.gen;obtain⟨k1,k2,k3,k4,k5,k6,k7,k8,rfl,gk⟩:=ho.gen;obtain⟨f1,f2,f3,f4,f5,f6,f7,f8,rfl,gf⟩:=hf.gen;obtain⟨g1,g2,g3,g4,g5,g6,g7,g8,rfl,gg⟩:=hg.gen;obtain⟨i1,i2,i3,i4,rfl,gi⟩:=hi.gen;obtain⟨j1,j2,j3,j4,j5,j6,j7,j8,rfl,gj⟩:=hj.gen;obtain⟨r1,r2,r3,r4,r5,r6,r7,r8,rfl,gr⟩:=hr.gen;have dd2:∀a b c d e f g i:AV,xK 2 [a,b,c,d,e,f,g,i]=[c,d,e,f,g,i]:=fun _ _ _ _ _ _ _ _=>rfl
 have dd6:∀a b c d e f g i:AV,xK 6 [a,b,c,d,e,f,g,i]=[g,i]:=fun _ _ _ _ _ _ _ _=>rfl
 unfold ah at e1 e2 e3 e4 e5 e6 e7 e8 e9 DV ⊢;rw[aB Vn];simp only[go_sem,ya,yb,Ux,a7,aG,o1,p1,o2,p2,aZ,yd,cD,dd2,CM,dd6,gH,kP,JP,ga.af,gb.af,gc.af,gd.af,gk.af,gf.af,gg.af,gi.af,gj.af,e1,e2,e3,e4,e5,e6,e7,e8,e9,DV,bf,gd.st,gr.st,de,df,yh,gr.eG]
def iA(x:Rat):Rat:=x-(x.floor:Int)
def EP{x:Rat}(h:Hq K x)(hK:1<=K):Hq (2*K+1) (iA x):=(h.sub (Yy h hK)).mono (by lia)
section
variable {a x0 x1 x2 x3 x4 x5 x6 x7 x8 x9:AV}{tm:Env}
def au9{r:List (Nat×Nat×X)}(h1:bF a=ycO):iH tm [x0,x1,x2,x3,x4,x5,x6,x7,x8,x9] 0 1 [a] r=fill tm [a,x1,x2,x3,x4,x5,x6,x7,x8,x9] r:=by
 rw[pP (by rfl) (by simp) (by simp[bP,h1])];rfl
def ava{r:List (Nat×Nat×X)}(h1:bF a=ycO):iH tm [x0,x1,x2,x3,x4,x5,x6,x7,x8,x9] 1 1 [a] r=fill tm [x0,a,x2,x3,x4,x5,x6,x7,x8,x9] r:=by
 rw[pP (by rfl) (by simp) (by simp[bP,h1])];rfl
def avb{b c d:AV}{r:List (Nat×Nat×X)}(h1:bF a=ycO)(h2:bF b=ycO)(h3:bF c=ycO)(h4:bF d=ycO):iH tm [x0,x1,x2,x3,x4,x5,x6,x7,x8,x9] 2 4 [a,b,c,d] r=fill tm [x0,x1,a,b,c,d,x6,x7,x8,x9] r:=by
 rw[pP (by rfl) (by simp) (by simp[bP,h1,h2,h3,h4])];rfl
def avc{b c d:AV}{r:List (Nat×Nat×X)}(h1:bF a=ycO)(h2:bF b=ycO)(h3:bF c=ycO)(h4:bF d=ycO):iH tm [x0,x1,x2,x3,x4,x5,x6,x7,x8,x9] 6 4 [a,b,c,d] r=fill tm [x0,x1,x2,x3,x4,x5,a,b,c,d] r:=by
 rw[pP (by rfl) (by simp) (by simp[bP,h1,h2,h3,h4])];rfl
def EQ(v:AV)(i j:Int)(f g:Rat):Prop:=∃c1 c2 c3 c4 d1 d2 d3 d4,v=.agg [aa i,aa j,c1,c2,c3,c4,d1,d2,d3,d4]/\bE (.agg [c1,c2,c3,c4]) f/\bE (.agg [d1,d2,d3,d4]) g
def m55(h:Fr' P L)(Mr:Has P L 55 V6)(HB:Has P L 103 OD)(Dm:Has P L 150 J7){x y:Rat}{s:Int}(hv:zg v x y)(kx:Hq K x)(ky:Hq K y)(hK0:100<=K)(hK:K<=1000000000)(qF:0<s)(hs:s<1000000):
  ∃r,ah P L 55 [v,aa s] r/\EQ r (x.floor%s) (y.floor%s) (iA x) (iA y):=by
 obtain⟨s1,w1,s2,w2,s3,w3,s4,w4,rfl,h1,h2,h3,h4⟩:=hv;have⟨f,e1,hf⟩:=am4 h HB Dm (v:=.agg [aa s1,w1,aa s2,w2]) (a:=x) ⟨s1,w1,s2,w2,rfl,h1,h2⟩ kx hK0 hK qF hs;have⟨g,e2,hg⟩:=am4 h HB Dm (v:=.agg [aa s3,w3,aa s4,w4]) (a:=y) ⟨s3,w3,s4,w4,rfl,h3,h4⟩ ky hK0 hK qF hs;have rL:=hf;have Ik:=hg;obtain⟨c1,c2,c3,c4,rfl,gf⟩:=hf.gen;obtain⟨d1,d2,d3,d4,rfl,gg⟩:=hg.gen;have⟨l1,u1⟩:=h1.aH;have⟨l2,u2⟩:=h2.aH;have⟨l3,u3⟩:=h3.aH;have⟨l4,u4⟩:=h4.aH;refine⟨_,?_,c1,c2,c3,c4,d1,d2,d3,d4,rfl,rL,Ik⟩;have p1:=gf.pu;have p2:=gg.pu;simp only[aP,aD,vV,yj] at p1 p2;have⟨Qz,QA,QB,QC⟩:=p1;have⟨QD,QE,QF,QG⟩:=p2
 have aK:∀(hp:Hp) (ct id:Nat) (i j:Int) (x0 x1 x2 x3 x4 x5 x6 x7 x8 x9:AV),fN hp ct id 0 10 [aa i,aa j,c1,c2,c3,c4,d1,d2,d3,d4] (Ix (.cells ycO ycO ycO 10 [x0,x1,x2,x3,x4,x5,x6,x7,x8,x9]))=Ix (.ax [],aV hp id (.cells ycO ycO ycO 10 [aa i,aa j,c1,c2,c3,c4,d1,d2,d3,d4]),ct):=fun hp ct id i j x0 x1 x2 x3 x4 x5 x6 x7 x8 x9=>by
  rw[mb (by rfl) (by simp) (by simp[bP,I0,gf.o1,gf.o2,gf.o3,gf.o4,gg.o1,gg.o2,gg.o3,gg.o4])];simp[aD,GQ,Qz,QA,QB,QC,QD,QE,QF,QG,over]
 have E6:∀(hp:Hp) (i j:Int),result hp (.agg [aa i,aa j,c1,c2,c3,c4,d1,d2,d3,d4])=Ix (.agg [aa i,aa j,c1,c2,c3,c4,d1,d2,d3,d4]):=fun hp i j=>by
  have e:freeze (980+20) hp (.agg [aa i,aa j,c1,c2,c3,c4,d1,d2,d3,d4])=Ix (.agg [aa i,aa j,c1,c2,c3,c4,d1,d2,d3,d4],hp):=
   a7 _ _ (by simp only[go_sem,yb,gf.z1,gf.z2,gf.z3,gf.z4,gg.z1,gg.z2,gg.z3,gg.z4])
  show (match freeze (980+20) hp (.agg [aa i,aa j,c1,c2,c3,c4,d1,d2,d3,d4]) with | some (v',_)=>Ix v' | none=>none)=_
  rw[e]
 unfold ah at e1 e2 ⊢;rw[aB Mr];simp only[go_sem,ya,yb,V6,aG,a7,u1.pu,u1.af,u1.one,u2.pu,u2.af,u2.one,u3.pu,u3.af,u3.one,u4.pu,u4.af,u4.one,aZ,yd,CM,gO,e1,e2,gf.st,gg.st,au9,ava,avb,avc,gf.o1,gf.o2,gf.o3,gf.o4,gg.o1,gg.o2,gg.o3,gg.o4,aK,de,df,yh];exact E6 _ _ _
end
section
variable {v:AV}{i j:Int}{s:List (List Int)}{cs:List AV}{l:List Rat}{K n:Nat}{f g:Rat}
def nQ(f g:Rat):List Rat:=[(1-f)*(1-g),f*(1-g),(1-f)*g,f*g]
def IsW(v:AV)(f g:Rat):Prop:=∃cs,v=.agg cs/\QL cs (nQ f g)
def Tf(kf:Hq K f)(kg:Hq K g):∀x,x∈nQ f g->Hq (2*K+6) x:=by
 intro x hx;have ku:=B7.sub kf;have kv:=B7.sub kg;simp only[nQ,wj,ybE,or_false] at hx;rcases hx with rfl | rfl | rfl | rfl
 .exact (ku.mul kv).mono (by lia)
 .exact (kf.mul kv).mono (by lia)
 .exact (ku.mul kg).mono (by lia)
 .exact (kf.mul kg).mono (by lia)
section
variable {tm:Env}{a b c d:AV}{r:List (Nat×Nat×X)}{x0 x1 x2 x3 x4 x5 x6 x7 x8 x9 xa xb xc xd xe xf:AV}
def avd(h1:bF a=ycO)(h2:bF b=ycO)(h3:bF c=ycO)(h4:bF d=ycO):iH tm [x0,x1,x2,x3,x4,x5,x6,x7,x8,x9,xa,xb,xc,xd,xe,xf] 0 4 [a,b,c,d] r=fill tm [a,b,c,d,x4,x5,x6,x7,x8,x9,xa,xb,xc,xd,xe,xf] r:=by
 rw[pP (by rfl) (by simp) (by simp[bP,h1,h2,h3,h4])];rfl
def ave(h1:bF a=ycO)(h2:bF b=ycO)(h3:bF c=ycO)(h4:bF d=ycO):iH tm [x0,x1,x2,x3,x4,x5,x6,x7,x8,x9,xa,xb,xc,xd,xe,xf] 4 4 [a,b,c,d] r=fill tm [x0,x1,x2,x3,a,b,c,d,x8,x9,xa,xb,xc,xd,xe,xf] r:=by
 rw[pP (by rfl) (by simp) (by simp[bP,h1,h2,h3,h4])];rfl
def avf(h1:bF a=ycO)(h2:bF b=ycO)(h3:bF c=ycO)(h4:bF d=ycO):iH tm [x0,x1,x2,x3,x4,x5,x6,x7,x8,x9,xa,xb,xc,xd,xe,xf] 8 4 [a,b,c,d] r=fill tm [x0,x1,x2,x3,x4,x5,x6,x7,a,b,c,d,xc,xd,xe,xf] r:=by
 rw[pP (by rfl) (by simp) (by simp[bP,h1,h2,h3,h4])];rfl
def avg(h1:bF a=ycO)(h2:bF b=ycO)(h3:bF c=ycO)(h4:bF d=ycO):iH tm [x0,x1,x2,x3,x4,x5,x6,x7,x8,x9,xa,xb,xc,xd,xe,xf] 12 4 [a,b,c,d] r=fill tm [x0,x1,x2,x3,x4,x5,x6,x7,x8,x9,xa,xb,a,b,c,d] r:=by
 rw[pP (by rfl) (by simp) (by simp[bP,h1,h2,h3,h4])];rfl
end
def aAH(hl:cs.length=16)(ho:bP cs=ycO)(aq:aD cs=ycO)(hp:Hp)(ct id:Nat)(x0 x1 x2 x3 x4 x5 x6 x7 x8 x9 xa xb xc xd xe xf:AV):fN hp ct id 0 16 cs (Ix (.cells ycO ycO ycO 16 [x0,x1,x2,x3,x4,x5,x6,x7,x8,x9,xa,xb,xc,xd,xe,xf]))=Ix (.ax [],aV hp id (.cells ycO ycO ycO 16 cs),ct):=by
 rw[mb hl (by simp) ho,aq]
 match cs,hl with
 | [_,_,_,_,_,_,_,_,_,_,_,_,_,_,_,_],_=>rfl
def aiN:∀{l:List Rat} {cs:List AV},QL cs l->∀(n:Nat) (hp:Hp),cm (n+l.length*4+2) hp cs=Ix (cs,hp)
 | [],_,h,n,hp=>by rw[h.Pr];rfl
 | x::l,cs,h,n,hp=>by
  obtain⟨a,b,c,d,r,rfl,h1,h2⟩:=h.inv;have g:=h1.f4;have e:=aiN h2 n hp;rw[show n+(x::l).length*4+2=n+l.length*4+2+1+1+1+1 by simp only[yB];lia]
  simp only[go_sem,g.z1,g.z2,g.z3,g.z4,e]
def QL.af(h:QL cs l)(hn:l.length*4+3<=n)(hp:Hp):freeze n hp (.agg cs)=Ix (.agg cs,hp):=by
 obtain⟨m,rfl⟩:∃m,n=m+l.length*4+3:=⟨n-(l.length*4+3),by lia⟩;exact a7 _ _ (aiN h m hp)
def QL.eG(h:QL cs l)(hl:l.length<=200)(hp:Hp):result hp (.agg cs)=Ix (.agg cs):=by
 show (match freeze 1000 hp (.agg cs) with | some (v',_)=>Ix v' | none=>none)=_
 rw[h.af (by lia)]
def EQ.gen(h:EQ v i j f g):∃c1 c2 c3 c4 d1 d2 d3 d4,v=.agg [aa i,aa j,c1,c2,c3,c4,d1,d2,d3,d4]/\bE (.agg [c1,c2,c3,c4]) f/\bE (.agg [d1,d2,d3,d4]) g/\(∀ct:Nat,E7 ct 10 [aa i,aa j,c1,c2,c3,c4,d1,d2,d3,d4]=Ix (.ptr ct 0,.cells ycO ycO ycO 10 [aa i,aa j,c1,c2,c3,c4,d1,d2,d3,d4]))/\∀(n:Nat) (hp:Hp),freeze (n+20) hp (.agg [aa i,aa j,c1,c2,c3,c4,d1,d2,d3,d4])=Ix (.agg [aa i,aa j,c1,c2,c3,c4,d1,d2,d3,d4],hp):=by
 obtain⟨c1,c2,c3,c4,d1,d2,d3,d4,rfl,hf,hg⟩:=h;have gf:=hf.f4;have gg:=hg.f4;have⟨Qz,QA,QB,QC⟩:=gf.qS;have⟨QD,QE,QF,QG⟩:=gg.qS;refine⟨c1,c2,c3,c4,d1,d2,d3,d4,rfl,hf,hg,fun ct=>?_,fun n hp=>a7 _ _ (by simp only[go_sem,gf.z1,gf.z2,gf.z3,gf.z4,gg.z1,gg.z2,gg.z3,gg.z4])⟩;rw[aG (by rfl) (by simp[bP,I0,gf.o1,gf.o2,gf.o3,gf.o4,gg.o1,gg.o2,gg.o3,gg.o4])];simp[aD,GQ,Qz,QA,QB,QC,QD,QE,QF,QG]
def Jw(a b c d e f g h i j:AV):gJ 10 ycO [a,b,c,d,e,f,g,h,i,j]=Ix (.agg [a,b,c,d,e,f,g,h,i,j]):=rfl
def avh(a b c d e f g h i j:AV):xK 2 [a,b,c,d,e,f,g,h,i,j]=[c,d,e,f,g,h,i,j]:=rfl
def avi(a b c d e f g h i j:AV):xK 6 [a,b,c,d,e,f,g,h,i,j]=[g,h,i,j]:=rfl
def avj(a b c d e f g h i j:AV):xK 1 [a,b,c,d,e,f,g,h,i,j]=[b,c,d,e,f,g,h,i,j]:=rfl
structure Vl(P:aJ)(L:Lib):Prop extends Fr' P L where
 Mr:Has P L 55 V6
 h56:Has P L 56 c56
 HB:Has P L 103 OD
 Vo:Has P L 104 Us
 Vp:Has P L 105 Ut
 abV:Has P L 106 Uu
 Ks:Has P L 134 J6
 Dm:Has P L 150 J7
def am6(h:Fr' P L)(Vo:Has P L 104 Us)(hv:EQ v i j f g)(kf:Hq K f)(kg:Hq K g)(hK:K<=1000000000):∃r,ah P L 104 [v] r/\IsW r f g:=by
 obtain⟨c1,c2,c3,c4,d1,d2,d3,d4,rfl,hf,hg,bx,_⟩:=hv.gen;have k1:Hq (K+4) (1:Rat):=B7.mono (by lia);have kf':Hq (K+4) f:=kf.mono (by lia);have kg':Hq (K+4) g:=kg.mono (by lia);have ku:Hq (K+4) (1-f):=(B7.sub kf).mono (by lia);have kv:Hq (K+4) (1-g):=(B7.sub kg).mono (by lia);have⟨o,e1,ho⟩:=DS h (z:=1) (by lia) (by lia);have oD:bE o 1:=ho;have⟨u,e2,hu⟩:=Lf h oD hf k1 kf' (by lia);have⟨w,e3,hw⟩:=Lf h oD hg k1 kg' (by lia);have⟨r1,e4,q1⟩:=zb h hu hw ku kv (by lia);have⟨r2,e5,q2⟩:=zb h hf hw kf' kv (by lia);have⟨r3,e6,q3⟩:=zb h hu hg ku kg' (by lia);have⟨r4,e7,q4⟩:=zb h hf hg kf' kg' (by lia);have gf:=hf.f4;have gg:=hg.f4;obtain⟨o1,o2,o3,o4,rfl,go⟩:=ho.gen;obtain⟨u1,u2,u3,u4,rfl,gu⟩:=hu.gen;obtain⟨w1,w2,w3,w4,rfl,gw⟩:=hw.gen;obtain⟨x1,x2,x3,x4,rfl,gx⟩:=q1.gen;obtain⟨y1,y2,y3,y4,rfl,gy⟩:=q2.gen;obtain⟨z1,z2,z3,z4,rfl,gz⟩:=q3.gen
 obtain⟨t1,t2,t3,t4,rfl,gt⟩:=q4.gen;have hq:QL [x1,x2,x3,x4,y1,y2,y3,y4,z1,z2,z3,z4,t1,t2,t3,t4] (nQ f g):=⟨q1,q2,q3,q4,trivial⟩;have aK:=aAH (by rfl) hq.one hq.pu;refine⟨_,?_,_,rfl,hq⟩;unfold ah at e1 e2 e3 e4 e5 e6 e7 ⊢;rw[aB Vo];simp only[go_sem,ya,yb,Us,bx,aG,aZ,yd,avh,avi,gO,e1,e2,e3,e4,e5,e6,e7,bf,go.st,gu.st,gw.st,go.af,gu.af,gw.af,gf.af,gg.af,gx.o1,gx.o2,gx.o3,gx.o4,gy.o1,gy.o2,gy.o3,gy.o4,gz.o1,gz.o2,gz.o3,gz.o4,gt.o1,gt.o2,gt.o3,gt.o4,avd,ave,avf,avg,aK,de,df,yh];exact hq.eG (by simp[nQ]) _
def am7(Vp:Has P L 105 Ut)(Ks:Has P L 134 J6){k:Int}{n:Int}(hv:EQ v i j f g)(hi:0<=i/\i<n)(hj:0<=j/\j<n)(hk:0<=k/\k<4)(hn:0<n)(fg:n<=1000000):ah P L 105 [v,aa k,aa n] (.ax [aa ((i+k%2)%n),aa ((j+k/2)%n)]):=by
 obtain⟨c1,c2,c3,c4,d1,d2,d3,d4,rfl,hf,hg,bx,_⟩:=hv.gen;have e1:=al7 Ks (n:=i+k%2) hn fg;have e2:=al7 Ks (n:=j+k/2) hn fg;have r1:k.tmod 2=k%2:=xF hk.1;have r2:k.tdiv 2=k/2:=xR hk.1;unfold ah at e1 e2 ⊢;rw[aB Vp]
 simp only[go_sem,ya,Ut,bx,aZ,yd,avj,yh,iD _ _ _ (show (2:Int)≠0 by decide),gN _ _ _ (show (2:Int)≠0 by decide),r1,r2,wrap64 (n:=k/2) (by lia) (by lia),wrap64 (n:=i+k%2) (by lia) (by lia),wrap64 (n:=j+k/2) (by lia) (by lia),e1,e2];rfl
def aFk(h:Fr' P L)(abV:Has P L 106 Uu){w:AV}{s:Rat}(hv:bE v s)(hw:cQ w l)(ks:Hq M s)(kl:∀x,x∈l->Hq K x)(hl:l.length<=1000000)(hK:M+l.length*(K+1)+K<=1000000000):∃r,ah P L 106 [v,w,.fn (.f 74) [] []] r/\bE r (z6 s l):=by
 have key:=dT P L [2,3,6,9,10,11] Nz
  (fun k st=>∃i:Nat,i+k=l.length/\∃c1 c2 c3 c4,bE (.agg [c1,c2,c3,c4]) (z6 s (l.take i))/\st=⟨[(2,.fn (.f 74) [] []),(3,.ptr 0 0),(6,.ptr 1 0),(9,w),(10,aa l.length),(11,aa i)],[(1,.cells ycO ycO ycO 4 [.int .i64 0,.ae,.int .i64 0,.ae]),(0,.cells ycO ycO ycO 4 [c1,c2,c3,c4])],2,0⟩)
  (fun ex st=>∃tm hp ct c1 c2 c3 c4,bE (.agg [c1,c2,c3,c4]) (z6 s l)/\st=⟨tm,hp,ct,0⟩/\ex=.exit 0/\ab tm 3=.ptr 0 0/\ab tm 6=.ptr 1 0/\au hp 0=Ix (.cells ycO ycO ycO 4 [c1,c2,c3,c4])/\au hp 1=Ix (.cells ycO ycO ycO 4 [.int .i64 0,.ae,.int .i64 0,.ae])) ?_
 .have gD:=hv;obtain⟨v1,v2,v3,v4,rfl,gv⟩:=hv.gen;unfold ah;rw[aB abV];simp only[go_sem,ya,yb,Uu,gv.bx,aG,hw.len];generalize hq:D P L (.loop _ Nz) _=q;obtain⟨ex,st,rfl,tm,hp,ct,c1,c2,c3,c4,h1,rfl,rfl,t3,t6,g0,g1⟩:=bg hq (key l.length) ⟨0,by lia,v1,v2,v3,v4,by simpa[z6] using gD,by simp only[go_sem,ya,yb,ao,aj hw.pu]<;>rfl⟩
  have g:=h1.f4;refine⟨_,?_,h1⟩;simp only[go_sem,ya,yb,ao,t3,t6,g0,g1,gO,g.st,de,df,yh];exact g.eG _
 .rintro k st ⟨i,hk,c1,c2,c3,c4,hs,rfl⟩;by_cases hi:i<l.length
  .left
   have⟨a,b,c,d,r,e1,hx⟩:=hw.aT hi;have⟨y,e2,hy⟩:=FL h hs hx (K:=M+l.length*(K+1)+K) ((axF ks kl i).mono (by lia)) ((kl _ (yy hi)).mono (by lia)) (by lia);rw[<-asU hi] at hy;have mq:=hy;obtain⟨y1,y2,y3,y4,rfl,gy⟩:=hy.gen;have gs:=hs.f4;have gx:=hx.f4;simp only[go_sem,ya,yb,Nz,show (i:Int)<l.length by lia,e1,Fi,gO,aG,gx.st,e2,gs.af,gx.af,gy.st,bf,yh];refine⟨_,k-1,rfl,by lia,i+1,by lia,y1,y2,y3,y4,mq,?_⟩;rw[wrap64 (by lia) (by lia)];simp only[go_sem,ya,yb,ao,aj hw.pu]<;>rfl
  .right
   simp only[go_sem,ya,Nz,show ¬(i:Int)<l.length by lia];rw[yq (by lia)] at hs;exact⟨_,_,rfl,by simp,_,_,_,c1,c2,c3,c4,hs,rfl,rfl,rfl,rfl,rfl,rfl⟩
def rA(s:List (List Int))(i j:Int)(k:Int):Rat:=((jc s (i+k%2) (j+k/2):Int):Rat)
def pq(s:List (List Int))(i j:Int)(f g:Rat):List Rat:=[(1-f)*(1-g)*rA s i j 0,f*(1-g)*rA s i j 1,(1-f)*g*rA s i j 2,f*g*rA s i j 3]
def Ps(s:List (List Int))(i j:Int)(f g:Rat):Rat:=z6 0 (pq s i j f g)
def avk(s:List (List Int))(i j:Int)(f g:Rat):∀(k:Nat) (hk:k<4),(pq s i j f g)[k]'hk=(nQ f g)[k]'hk*rA s i j (k:Int)
 | 0,_=>rfl
 | 1,_=>rfl
 | 2,_=>rfl
 | 3,_=>rfl
 | k+4,hk=>absurd hk (by lia)
structure Mu(v:AV)(s:List (List Int))(n:Nat):Prop where
 is:ix v s
 len:s.length=n
 pos:0<n
 le:n<=16
 row:∀i (hi:i<s.length),s[i].length=n
 sq:mJ n (-1000) 1000 s=0
def Mu.cell(h:Mu v s n)(c r:Int):∃q rest alm,iZ 1 (r%n).toNat v=Ix (.aQ (q::rest))/\iZ 1 (c%n).toNat q=Ix (.aQ (aa (jc s c r)::alm)):=by
 have⟨h1,h2,h3⟩:=auG h.len h.pos h.row c r;have⟨q,rest,gM,Bc⟩:=h.is.aT h1;exact⟨q,rest,_,Bc,by rw[h3];exact gM.aT h2⟩
def Mu.cS(h:Mu v s n)(c r:Int): -1000<=jc s c r/\jc s c r<=1000:=Xj h.sq (by decide) c r
def Np{k:Int}(h:∀c r,-1000<=jc s c r/\jc s c r<=1000):Hq 64 (rA s i j k):=by
 have:=h (i+k%2) (j+k/2)
 unfold rA;exact⟨by rw[vY];unfold Bd;lia,by rw[uz];exact vO (by lia)⟩
def aiO(h:∀c r,-1000<=jc s c r/\jc s c r<=1000)(kf:Hq K f)(kg:Hq K g):∀x,x∈pq s i j f g->Hq (2*K+70) x:=by
 intro x hx;have hw:=Tf kf kg;simp only[pq,wj,ybE,or_false] at hx;rcases hx with rfl | rfl | rfl | rfl
 .exact ((hw _ (by simp[nQ])).mul (Np h)).mono (by lia)
 .exact ((hw _ (by simp[nQ])).mul (Np h)).mono (by lia)
 .exact ((hw _ (by simp[nQ])).mul (Np h)).mono (by lia)
 .exact ((hw _ (by simp[nQ])).mul (Np h)).mono (by lia)
def QL.Dv(h:QL cs l){k:Nat}(hl:l.length=n)(hk:k<n):∃a b c d,N7 n 4 ycO k (.agg cs)=Ix (.agg [a,b,c,d])/\bE (.agg [a,b,c,d]) (l[k]'(by lia)):=by
 have⟨a,b,c,d,r,e,hq⟩:=h.get (i:=k) (by lia);refine⟨a,b,c,d,?_,hq⟩;show (bif yU k n then gJ 4 ycO (cs.drop (k*4)) else none)=_
 rw[nA hk,e];rfl
def m56(h:Vl P L){w:AV}(hv:EQ v i j f g)(hw:Mu w s n)(hi:0<=i/\i<n)(hj:0<=j/\j<n)(kf:Hq K f)(kg:Hq K g)(hK:K<=10000000):
  ∃r,ah P L 56 [v,w] r/\bE r (Ps s i j f g):=by
 have⟨W,eW,hW⟩:=am6 h.toFr' h.Vo hv kf kg (by lia);obtain⟨c1,c2,c3,c4,d1,d2,d3,d4,rfl,hf,hg,bx,fz⟩:=hv.gen;obtain⟨cs,rfl,dA⟩:=hW;have hS:=hw.is;have hn:=hw.len;have n0:=hw.pos;have n1:=hw.le;have kp:=aiO (i:=i) (j:=j) hw.cS kf kg;have kw:=Tf kf kg;have pW:aP (.agg cs)=ycO:=by simp only[aP,dA.pu]
 have key:=dT P L [1,2,4,5,11,12] JI
  (fun k st=>∃m:Nat,m+k=4/\((m=0/\st=⟨[(1,w),(2,.ptr 0 0),(4,.ptr 1 0),(5,.ae),(11,.agg cs),(12,aa m)],[(1,.cells ycO ycO ycO 4 [.int .i64 0,.ae,.int .i64 0,.ae]),(0,.cells ycO ycO ycO 10 [aa i,aa j,c1,c2,c3,c4,d1,d2,d3,d4])],2,0⟩)\/
   (0<m/\∃ps,QL ps ((pq s i j f g).take m)/\st=⟨[(1,w),(2,.ptr 0 0),(4,.ptr 1 0),(5,.av 2 0 m),(11,.agg cs),(12,aa m)],[(2,.cells ycO ycO ycP 4 ps),(1,.cells ycO ycO ycO 4 [.int .i64 0,.ae,.int .i64 0,.ae]),(0,.cells ycO ycO ycO 10 [aa i,aa j,c1,c2,c3,c4,d1,d2,d3,d4])],3,0⟩)))
  (fun ex st=>∃tm hp ct ps,QL ps (pq s i j f g)/\st=⟨tm,hp,ct,0⟩/\ex=.exit 0/\ab tm 4=.ptr 1 0/\ab tm 5=.av 2 0 4/\au hp 1=Ix (.cells ycO ycO ycO 4 [.int .i64 0,.ae,.int .i64 0,.ae])/\au hp 2=Ix (.cells ycO ycO ycP 4 ps)) ?_
 .unfold ah at eW ⊢;rw[aB h.h56];simp only[go_sem,ya,yb,c56,bx,aG,Jw,fz,eW,bf,yh];generalize hq:D P L (.loop _ JI) _=q;obtain⟨ex,st,rfl,tm,hp,ct,ps,dX,rfl,rfl,t4,t5,g1,g2⟩:=bg hq (key 4) ⟨0,by lia,.inl ⟨rfl,by simp only[go_sem,ya,yb,ao,aj hS.pu,aj pW]<;>rfl⟩⟩
  have hl4:ps.length=4*4:=by rw[dX.len];rfl
  have⟨z,e1,hz⟩:=DS h.toFr' (z:=0) (by lia) (by lia);have dj:bE z 0:=hz;have gA:=hz;obtain⟨z1,z2,z3,z4,rfl,gz⟩:=hz.gen;have⟨r,e2,hr⟩:=aFk h.toFr' h.abV (K:=2*K+70) (M:=2) dj (w:=.aF ycP 4 ps) (Ed ycP dX) B6 kp (by simp[pq]) (by simp only[pq,yB,yI];lia)
  have bt:=hr;obtain⟨r1,r2,r3,r4,rfl,gr⟩:=hr.gen;refine⟨_,?_,bt⟩;unfold ah at e1 e2;simp only[go_sem,ya,yb,ao,t4,t5,g1,g2,e1,gz.af,oR ycP hl4 (show 0<4 by decide),e2,bf,gr.st,de,df,yh];exact gr.eG _
 .rintro k st ⟨m,hk,aK⟩;by_cases hm:m<4
  .left
   have⟨a,b,c,d,e1,hx⟩:=dA.Dv (n:=4) rfl hm;have e2:=am7 h.Vp h.Ks hv (k:=(m:Int)) (n:=n) hi hj (by lia) (by lia) (by lia);have⟨q,rest,alm,e3,e4⟩:=hw.cell (i+(m:Int)%2) (j+(m:Int)/2);have hb:=hw.cS (i+(m:Int)%2) (j+(m:Int)/2);have⟨z,e5,hz⟩:=DS h.toFr' (z:=jc s (i+(m:Int)%2) (j+(m:Int)/2)) (by lia) (by lia);have⟨y,e6,hy⟩:=zb h.toFr' hx hz (K:=2*K+70) ((kw _ (yy _)).mono (by lia)) ((Np (i:=i) (j:=j) (k:=(m:Int)) hw.cS).mono (by lia)) (by lia);have a1:=wV (i+(m:Int)%2) (show (n:Int)≠0 by lia);have a2:=wV (j+(m:Int)/2) (show (n:Int)≠0 by lia);have mq:=hy;obtain⟨y1,y2,y3,y4,rfl,gy⟩:=hy.gen;obtain⟨z1,z2,z3,z4,rfl,gz⟩:=hz.gen;have gx:=hx.f4;have bz:∀q,iH q [AV.int .i64 0,.ae,.int .i64 0,.ae] 0 4 [y1,y2,y3,y4] []=fill q [y1,y2,y3,y4] []:=fun q=>Jv gy.o1 gy.o2 gy.o3 gy.o4
   have hpg:(pq s i j f g)[m]'(by simp[pq];lia)=(nQ f g)[m]'hm*rA s i j (m:Int):=avk _ _ _ _ _ m hm
   have dW:(pq s i j f g).take (m+1)=(pq s i j f g).take m++[(nQ f g)[m]'hm*rA s i j (m:Int)]:=by rw[yk (by simp[pq];lia),hpg]
   unfold rA at dW;unfold ah at e2 e5 e6;have⟨zi,zj,zk,zm⟩:=gy.qS;have pY:aD [y1,y2,y3,y4]=ycO:=by simp only[aD,zi,zj,zk,zm,xt]
   rcases aK with ⟨h0,rfl⟩ | ⟨h0,ps,dX,rfl⟩
   .subst h0;simp only[go_sem,ya,yb,yV,yA,yi,JI,show ((0:Nat):Int)<4 by lia,yo,nR (show (0:Int)<=((0:Nat):Int) by lia),xx,e1,aG,gx.st,Jw,gO,fz,hn,hS.len,e2,r9,nR a1,nR a2,e3,e4,e5,gx.af,gz.af,e6,bz,zi,zj,zk,zm,xt,oX,bf,yh,eT];refine⟨_,k-1,rfl,by lia,1,by lia,.inr ⟨by lia,[y1,y2,y3,y4],?_,?_⟩⟩
    .rw [dW];exact⟨mq,trivial⟩
    .rw [wrap64 (by lia) (by lia)];simp only[go_sem,ya,yb,ao,aj hS.pu,aj pW]<;>rfl
   .simp only [go_sem,ya,yb,yV,JI,show (m:Int)<4 by lia,yo,nR (show (0:Int)<=m by lia),xx,e1,aG,gx.st,Jw,gO,fz,hn,hS.len,e2,r9,nR a1,nR a2,e3,e4,e5,gx.af,gz.af,e6,bz,zi,zj,zk,zm,xt,oX,bf,yh]
    rw[dZ (ex:=ycP) (pu:=ycO) (cs:=ps) rfl (by rw[dX.len,yJ,xq (by simp[pq];lia)]) (by lia) (by lia) (by decide) (by simp only[go_sem,gy.o1,gy.o2,gy.o3,gy.o4])]
    simp only[go_sem,ya,yb,pY];refine⟨_,k-1,rfl,by lia,m+1,by lia,.inr ⟨by lia,ps++[y1,y2,y3,y4],?_,?_⟩⟩
    .rw [dW];exact dX.snoc mq
    .rw [wrap64 (by lia) (by lia)];simp only[go_sem,ya,yb,ao,aj hS.pu,aj pW]<;>rfl
  .right
   have h4:m=4:=by lia
   subst h4;rcases aK with ⟨h0,rfl⟩ | ⟨h0,ps,dX,rfl⟩
   .exact absurd h0 (by decide)
   .simp only [go_sem,ya,JI,show ¬((4:Nat):Int)<4 by decide,yp];exact⟨_,_,rfl,by simp,_,_,_,ps,dX,rfl,rfl,rfl,by simp only[go_sem,ya]<;>rfl,rfl,rfl⟩
end
structure BuT(P:aJ)(L:Lib):Prop where
 h40:Has P L 40 c40
 h96:Has P L 96 c96
 aJN:Has P L 133 al1
structure SmP(P:aJ)(L:Lib):Prop extends BuT P L,Sq P L where
 h41:Has P L 41 c41
 h97:Has P L 97 c97
 Ks:Has P L 134 J6
def F2{s:List (List Int)}(h:oP s=0):0<s.length/\s.length<=16/\mJ s.length (-1000) 1000 s=0:=by
 unfold oP at h
 grind
structure ShP(P:aJ)(L:Lib):Prop extends SmP P L where
 qP:Has P L 20 c20
 WQ:Has P L 51 V5
 h58:Has P L 58 c58
 Mo:Has P L 34 HS
def nm(n:Int):Int:=if n< -999999999\/999999999<n then 3 else 0
def s51(h:Has P L 51 V5)(Mo:Has P L 34 HS)(jn:Has P L 31 Cj)(n:Int):ah P L 51 [aa n] (aa (nm n)):=by
 unfold ah;rw[aB h];simp only[go_sem,ya,V5,s34 Mo jn,nm]
end VE
