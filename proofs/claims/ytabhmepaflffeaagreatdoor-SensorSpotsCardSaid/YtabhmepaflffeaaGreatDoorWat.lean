import Derived.OwnWalk
import Derived.WalkKit
import Derived.Test.YtabhmepaflffeaaGreatDoorWas
set_option linter.all false
set_option maxRecDepth 100000
open BitVec renaming ofInt->xT,toNat_and->yao,toNat_not->ybD,toNat_ofInt->vM
open Bool renaming and_eq_true->yf,and_self->wg,false_and->wH,false_eq_true->yH,false_or->vT,not_eq_true'->vS,not_false->yY,not_true->yO,or_true->ybd,true_and->wI,true_or->uN
open Classical renaming propDecidable->tj
open Go renaming Calls->wG,DataW->xX,Field->uj,FloatKind->xY,IntKind->xh,MemPlace->wZ,Program->xA,TypeId->yF,Value->yj,World->yo,binOp->wb
open Go.FloatKind renaming f32->yaU
open Ieee renaming single->yaz
open Int renaming lt_irrefl->ycP,lt_trichotomy->uT,natAbs_natCast->xG,natCast_add->yak,natCast_mul->xx,not_le->yaL,ofNat_tdiv->yaO,ofNat_tmod->yaN,reduceEq->yaG,tmod_eq_emod_of_nonneg->xN
open List renaming all_eq_true->yan,any_eq_true->ybX,append_nil->wu,cons_append->xe,drop_eq_getElem_cons->yS,drop_eq_nil_of_le->xb,drop_succ_cons->yL,drop_zero->yg,eq_nil_of_length_eq_zero->yD,filter_eq_nil_iff->yad,flatMap_def->ybW,getD_eq_getElem?_getD->y9,getElem?_eq_getElem->xu,getElem_append_left->uv,getElem_append_right->vj,getElem_cons_succ->uo,getElem_cons_zero->wX,getElem_map->vz,getElem_mem->xq,length->uE,length_append->yW,length_cons->yB,length_map->yU,length_nil->yM,length_take->yP,mapM_cons->ta,map_append->xB,map_cons->yV,map_nil->wJ,mem_append->wB,mem_cons->xP,mem_cons_of_mem->xy,mem_cons_self->xO,mem_iff_getElem->tc,mem_map->wA,mem_range->vW,mem_singleton->wE,nil_append->xt,nodup_cons->uy,range->wR,range'->wq,range_succ->ybc,replicate->yk,replicate_succ->wQ,take_of_length_le->yK,take_succ_eq_append_getElem->xn,zipWith->uO
open List.cons renaming injEq->uG
open Nat renaming add_mul->we,add_zero->y7,and_two_pow_sub_one_eq_mod->yaw,beq_refl->wK,ble->yJ,ble_eq_true_of_le->yz,div_lt_of_lt_mul->tY,le_refl->yx,le_trans->xi,lt_of_le_of_lt->xQ,lt_of_lt_of_le->yI,min_eq_left->xo,mod_eq_of_lt->yR,mod_lt->xE,mul_assoc->xk,mul_comm->xg,mul_le_mul->yZ,mul_le_mul_right->yX,mul_one->yh,ne_of_gt->uU,not_lt_zero->ybp,one_mul->yah,pos_of_ne_zero->vY,pow_add->xF,pow_le_pow_right->y8,pow_succ->xp,reduceAdd->yb,reduceEqDiff->ya,reduceLT->yG,reduceLeDiff->yq,reduceMul->xv,two_pow_pos->xf,zero_add->ye,zero_mul->wz
open Option renaming bind_eq_bind->ug,bind_some->wT,getD_some->vh,map_eq_some_iff->ve,pure_def->vn
open Option.some renaming injEq->yc
open Prod.mk renaming injEq->yr
open Rat renaming den_intCast->vt,divInt->wW,divInt_eq_div->yar,floor_le->ycZ,intCast_lt_intCast->uA,le_floor_iff->yci,le_of_lt->ue,le_trans->ybj,lt_irrefl->ud,mul_assoc->wF,mul_le_mul_of_nonneg_left->vN,mul_le_mul_of_nonneg_right->vJ,mul_lt_mul_right->wP,mul_nonneg->yaM,mul_one->wO,natCast_le_natCast->vR,natCast_lt_natCast->tK,natCast_mul->xK,not_le->vZ,not_lt->vQ,num_intCast->vI,num_nonneg->tX,one_mul->tn,zero_mul->yda
open Option renaming some->Gr,none->Gs
open Bool renaming true->ydy,false->ydz
section
namespace VE
open Go (IntKind)
open Ieee
section
variable {k:Int}{n:Nat}
def aAr{b M:Nat}{s:Bool}(h:Fl b s M)(h0:M≠0):∃b',binOp .sub (.an .f32 0) (.an .f32 b)=Gr (.an .f32 b')/\Fl b' (!s) M:=by
 obtain⟨m,e,h1,rfl⟩:=h.ex;obtain⟨b1,b2,b3,b4⟩:=h1.b;have m0:m≠0:=fun q=>h0 (by unfold cO;rw[q,wz])
 obtain⟨m',e',k1,k2,k3⟩:=Cr (n:=m) (k:=e) m0 b2 b1 b4 (m0:=cO m e) (e0:= -149) (!s) (by
  rw[zt b1]
  have:p2 149*p2 (-149)=1:=by rw[<-eR];exact pq
  rw[wF,this,wO])
 have e1:single.sub 0 b=Gr (single.write (.number (!s) (cO m e) (-149))):=by
  unfold Format.sub;rw[h1.read,show single.read 0=.number ydz 0 (-149) by decide];show Gr (single.write (.number (if signed ydz 0 ((-149:Int)-min (-149) e).toNat+signed (!s) m (e-min (-149) e).toNat=0 then ydz&&(!s) else decide (signed ydz 0 ((-149:Int)-min (-149) e).toNat+signed (!s) m (e-min (-149) e).toNat<0)) (signed ydz 0 ((-149:Int)-min (-149) e).toNat+signed (!s) m (e-min (-149) e).toNat).natAbs (min (-149) e)))=_
  have hm:min (-149) e= -149:=by omega
  have hs:signed ydz 0 ((-149:Int)-min (-149) e).toNat+signed (!s) m (e-min (-149) e).toNat=bk (!s) (cO m e):=by
   rw[hm];unfold signed cO bk;simp only[yH,xz,Nat.shiftLeft_eq,wz];rw[show e - -149=e+149 by omega];cases s<;>simp
  rw[hs,hm];have ha:(bk (!s) (cO m e)).natAbs=cO m e:=by unfold bk;split<;>omega
  rw[ha,yp (by unfold bk;split<;>omega)]
  congr 3
  unfold bk
  cases s with
  | true=>exact yC (by simp)
  | false=>exact yN (by simp;omega)
 refine⟨_,?_,m',e',k1,(VB k1.b.1 b1 k3).symm⟩;show (match single.sub 0 b with | some b=>Gr (AV.an .f32 b) | none=>Gs)=_
 rw[e1]
section
variable {P:aF}{L:Lib}
def ax5{i:Nat}(hn:n<=16777216)(hi:i<=251\/(i<=252/\n<16777216)):n*2^i<2^276:=by
 rcases hi with h | ⟨h,h2⟩
 .have:=yZ hn (y8 (n:=2) (by decide) h)
  exact xQ this (Wc 16777216 25 251 276 (by decide) rfl)
 .have:=yZ (show n<=16777215 by omega) (y8 (n:=2) (by decide) h)
  exact xQ this (Wc 16777215 24 252 276 (by decide) rfl)
def ax6(hn:n<=16777216)(hk:k<=104)(Eh:n=16777216->k<104):
  cE P L [1,5,6] K6 (fun d st=>∃(b i:Nat),(i:Int)+d=max k 0/\Fl b ydz (n*2^(149+i))/\st=⟨[(1,aa k),(5,.an .f32 b),(6,aa i)],[],0,0⟩) (fun ex s'=>∃tm ct b,s'=⟨tm,[],ct,0⟩/\ex=.exit 0/\Fl b ydz (n*2^(149+(max k 0).toNat))/\ai tm 1=aa k/\ai tm 5=.an .f32 b):=by
 apply cI;rintro d st ⟨b,i,hd,hN,rfl⟩;by_cases c:(i:Int)<k
 .left
  obtain⟨b',e1,bE⟩:=We hN (ax5 hn (by
   by_cases q:n=16777216
   .have:=Eh q;left;omega
   .right;omega))
  have wi:IntKind.wrap .i64 ((i:Int)+1)=((i+1:Nat):Int):=wrap64 (by omega) (by omega);simp only[go_sem,ya,K6,c,yv,e1,wi]
  refine⟨_,d-1,rfl,by omega,b',i+1,by omega,by
   rw[show 149+(i+1)=(149+i)+1 by omega,xp,<-xk,xg];exact bE,?_⟩
  simp only[go_sem,ya,aq,lQ,lV]<;>rfl
 .right
  have hi:(max k 0).toNat=i:=by omega
  simp only[go_sem,ya,K6,c,yu];exact⟨_,_,rfl,by simp,_,_,b,rfl,rfl,by rw[hi];exact hN,by simp only[go_sem,ya],by simp only[go_sem,ya]⟩
def ax7(ie: -149<=k)(hk:k<=104):
  cE P L [1,5,7] K7 (fun d st=>∃(b:Nat) (i:Int),i-d=min k 0/\i<=0/\Fl b ydz (n*2^(149+i+max k 0).toNat)/\st=⟨[(1,aa k),(5,.an .f32 b),(7,aa i)],[],0,0⟩) (fun ex s'=>∃tm ct b,s'=⟨tm,[],ct,0⟩/\ex=.exit 2/\Fl b ydz (n*2^(149+k).toNat)/\ai tm 5=.an .f32 b):=by
 apply cI;rintro d st ⟨b,i,hd,sY,hN,rfl⟩;by_cases c:k<i
 .left
  obtain⟨t,ht⟩:∃t,(149+i+max k 0).toNat=t+1:=⟨(148+i+max k 0).toNat,by omega⟩;rw[ht,xp,<-xk] at hN;obtain⟨b',e1,bE⟩:=Wf hN (by omega);rw[Nat.mul_div_cancel _ (by decide)] at bE;have wi:IntKind.wrap .i64 (i-1)=i-1:=wrap64 (by omega) (by omega);simp only[go_sem,ya,K7,c,yv,e1,wi];refine⟨_,d-1,rfl,by omega,b',i-1,by omega,by omega,by rw[show (149+(i-1)+max k 0).toNat=t by omega];exact bE,?_⟩
  simp only[go_sem,ya,aq,lQ,lV]<;>rfl
 .right
  simp only[go_sem,ya,K7,c,yu];exact⟨_,_,rfl,by simp,_,_,b,rfl,rfl,by rw[show (149+k).toNat=(149+i+max k 0).toNat by omega];exact hN,by simp only[go_sem,ya]⟩
def ajk(Sa:Has P L 390 Rh)(hn:n<=16777216)(ie: -149<=k)(hk:k<=104)(Eh:n=16777216->k<104):∃b,ab P L 390 [aa n,aa k] (.an .f32 b)/\Fl b ydz (n*2^(149+k).toNat):=by
 obtain⟨b0,e0,dU⟩:=VD (n:=(n:Int)) (by omega);rw[xG,yC (show ¬(n:Int)<0 by omega)] at dU;have l0:=ax6 (P:=P) (L:=L) hn hk Eh (max k 0).toNat;have l1:=ax7 (P:=P) (L:=L) (n:=n) ie hk (-(min k 0)).toNat;unfold ab;rw[aD Sa];simp only[go_sem,ya,Rh,e0];generalize hq:D P L (.loop _ K6) _=q;obtain⟨ex,st,rfl,tm,ct,b1,rfl,rfl,kj,t1,t5⟩:=bg hq l0 ⟨b0,0,by omega,dU,by simp only[go_sem,ya,aq,lQ,lV]<;>rfl⟩
 simp only[go_sem,aq,t1,t5,lQ,lV];generalize hq:D P L (.loop _ K7) _=q;obtain⟨ex,st,rfl,tm,ct,b2,rfl,rfl,js,u5⟩:=bg hq l1 ⟨b1,0,by omega,by omega,by rw[show (149+(0:Int)+max k 0).toNat=149+(max k 0).toNat by omega];exact kj,by simp only[go_sem,ya,aq,lQ,lV]<;>rfl⟩
 refine⟨b2,?_,js⟩;simp only[go_sem,aq,u5,lQ,lV];rfl
end
end
end VE
end
section
namespace VE
open Go (IntKind)
open Ieee
def Ua(q:Rat):0<=bK q.num↔0<=q:=by
 rw[<-tX];unfold bK;constructor
 .intro h;split at h<;>omega
 .intro h;split
  .omega
  .split<;>omega
def oN(q:Rat):bK q.num<0↔q<0:=by
 have h:=Ua q;constructor
 .intro c;exact vZ.1 fun q'=>by have:=h.2 q';omega
 .intro c;exact yaL.1 fun q'=>absurd (h.1 q') (vZ.2 c)
def UB(q:Rat):(-q).num= -q.num:=rfl
def ab2(q:Rat):0<bK q.num↔0<q:=by
 have h:=oN (-q);rw[UB] at h;have h2:0<bK q.num↔bK (-q.num)<0:=by
  unfold bK;constructor
  .intro c;split at c
   .omega
   .split at c
    .omega
    .rw [yE (by omega)];decide
  .intro c;split at c
   .rw [yp (by omega),yp (by omega)];decide
   .split at c<;>omega
 rw[h2,h];constructor
 .intro c;grind
 .intro c;grind
def ab3(q:Rat):bK q.num=0↔q=0:=by
 have h1:=ab2 q;have h2:=oN q;constructor
 .intro c;have a1:¬0<q:=fun x=>by have:=h1.2 x;omega
  have a2:¬q<0:=fun x=>by have:=h2.2 x;omega
  exact Rat.le_antisymm (vQ.1 a1) (vQ.1 a2)
 .rintro rfl;decide
structure KP(a:Rat)(k:Int):Prop where
 lo: -149<=k
 lt:a*p2 (-k)<16777216
 ge:8388608<=a*p2 (-k)\/k= -149
def nR(y:Rat):Nat:=if fm<y-(y.floor.toNat:Rat)\/(y-(y.floor.toNat:Rat)=fm/\y.floor.toNat%2=1) then y.floor.toNat+1 else y.floor.toNat
def ad9(a:Rat)(k:Int):a*p2 (-(k+1))=a*p2 (-k)*fm:=by
 rw[show -(k+1)= -k+ -1 by omega,eR]
 have:p2 (-1)=fm:=by
  have h:=Hj 1;rw[sq] at h;have h2:fm*2=1:=by decide+kernel
  have h3:p2 (-1)*2*fm=fm:=by rw[h,tn]
  rw[wF,Rat.mul_comm 2 fm,h2,wO] at h3;exact h3
 rw[this];grind
def acY(a:Rat)(k:Int):a*p2 (-(k-1))=a*p2 (-k)*2:=by
 rw[show -(k-1)= -k+1 by omega,eR,sq];grind
def ax8:RT (16777216:Rat)=[49,54,55,55,55,50,49,54]:=by decide+kernel
def ax9:RT (8388608:Rat)=[56,51,56,56,54,48,56]:=by decide+kernel
def P3{n:Nat}{K:Nat}(h:n<2^K)(hK:1<=K):Hq K ((n:Nat):Rat):=
 ⟨by show Bd K (((n:Nat):Int):Rat).num;rw[vI];unfold Bd;rw[xG];exact h,by show Bd K ((((n:Nat):Int):Rat).den:Int);rw[vt];unfold Bd;exact Nat.one_lt_two_pow (by omega)⟩
structure Fz(P:aF)(L:Lib):Prop extends Fy0 P L where
 oA:Has P L 315 FA
 YC:Has P L 319 Rg
 YE:Has P L 336 Mf
 DB:Has P L 338 FB
 HY:Has P L 339 FC
 YG:Has P L 340 Mg
 HZ:Has P L 388 di
 Sa:Has P L 390 Rh
section
variable {P:aF}{L:Lib}
def aya(h:Fz P L){a:Rat}(ka:Hq 2600 a)(ha:a<p2 128):
  cE P L [0,6] K5 (fun d st=>∃(i:Nat),i+d=104/\(i≠0->8388608<=a*p2 (-(i:Int)))/\st=⟨[(0,.str (RT (a*p2 (-(i:Int))))),(6,aa i)],[],0,0⟩) (fun ex s'=>∃tm ct,∃i:Nat,s'=⟨tm,[],ct,0⟩/\ex=.exit 0/\i<=104/\a*p2 (-(i:Int))<16777216/\(i≠0->8388608<=a*p2 (-(i:Int)))/\ai tm 0=.str (RT (a*p2 (-(i:Int))))/\ai tm 6=aa i):=by
 apply cI;rintro d st ⟨i,hd,ml,rfl⟩;have ky:Hq 3602 (a*p2 (-(i:Int))):=(ka.mul (B3 (-(i:Int)) (by omega))).mono (by decide);have kb:Hq 25 (16777216:Rat):=P3 (n:=16777216) (by decide) (by decide);have e1:=HX h.toRp h.oA ky kb (by decide);rw[ax8] at e1;have hc:=Ua (a*p2 (-(i:Int))-16777216);by_cases c:a*p2 (-(i:Int))<16777216
 .right
  have hn:¬0<=bK (a*p2 (-(i:Int))-16777216).num:=fun q=>by have:=hc.1 q;grind
  unfold ab at e1;simp only[go_sem,K5,e1,hn,yu];exact⟨_,_,rfl,by simp,_,_,i,rfl,rfl,by omega,c,ml,by simp only[go_sem,ya],by simp only[go_sem,ya]⟩
 .left
  have hp:0<=bK (a*p2 (-(i:Int))-16777216).num:=hc.2 (by grind);have hi:i<104:=by
   rcases Nat.lt_or_ge i 104 with q | q
   .exact q
   .exfalso
    have:i=104:=by omega
    subst this;have h1:a*p2 (-((104:Nat):Int))<p2 128*p2 (-((104:Nat):Int)):=(wP (mW _)).2 ha;rw[<-eR] at h1;have h2:p2 (128+ -((104:Nat):Int))=16777216:=fL 24;rw[h2] at h1;exact c h1
  have e2:=aCI h.toRn h.YC ky (by decide);rw[<-ad9] at e2;have wi:IntKind.wrap .i64 ((i:Int)+1)=((i+1:Nat):Int):=wrap64 (by omega) (by omega);unfold ab at e1 e2;simp only[go_sem,ya,K5,e1,hp,yv,e2,wi];refine⟨_,d-1,rfl,by omega,i+1,by omega,fun _=>?_,?_⟩
  .rw [show ((i+1:Nat):Int)=(i:Int)+1 from rfl,ad9];have hh:fm=1/2:=by decide+kernel
   rw[hh];grind
  .simp only [go_sem,ya,aq]<;>rfl
def ayb(h:Fz P L){a:Rat}(ka:Hq 2600 a):
  cE P L [0,6] GZ (fun d st=>∃(k:Int),k-d= -149/\k<=104/\a*p2 (-k)<16777216/\st=⟨[(0,.str (RT (a*p2 (-k)))),(6,aa k)],[],0,0⟩) (fun ex s'=>∃tm ct,∃k:Int,s'=⟨tm,[],ct,0⟩/\ex=.exit 2/\KP a k/\k<=104/\ai tm 0=.str (RT (a*p2 (-k)))/\ai tm 6=aa k):=by
 apply cI;rintro d st ⟨k,hd,hk,aG,rfl⟩;have ky:Hq 3602 (a*p2 (-k)):=(ka.mul (B3 (-k) (by omega))).mono (by decide);have kb:Hq 24 (8388608:Rat):=P3 (n:=8388608) (by decide) (by decide);have e1:=HX h.toRp h.oA ky kb (by decide);rw[ax9] at e1;have hc:=oN (a*p2 (-k)-8388608);unfold ab at e1;by_cases c:a*p2 (-k)<8388608
 .have hn:bK (a*p2 (-k)-8388608).num<0:=hc.2 (by grind);by_cases c2: -149<k
  .left
   have e2:=Dj h.toRn ky Lm (by decide);rw[afU,<-acY] at e2;have wi:IntKind.wrap .i64 (k-1)=k-1:=wrap64 (by omega) (by omega);unfold ab at e2;simp only[go_sem,ya,GZ,e1,hn,c2,yv,e2,wi];refine⟨_,d-1,rfl,by omega,k-1,by omega,by omega,by rw[acY];grind,?_⟩
   simp only[go_sem,ya,aq]<;>rfl
  .right
   simp only[go_sem,ya,GZ,e1,hn,c2,yv,yu];exact⟨_,_,rfl,by simp,_,_,k,rfl,rfl,⟨by omega,aG,.inr (by omega)⟩,hk,by simp only[go_sem,ya],by simp only[go_sem,ya]⟩
 .right
  have hn:¬bK (a*p2 (-k)-8388608).num<0:=fun q=>by have:=hc.1 q;grind
  simp only[go_sem,ya,GZ,e1,hn,yu];exact⟨_,_,rfl,by simp,_,_,k,rfl,rfl,⟨by omega,aG,.inl (vQ.1 c)⟩,hk,by simp only[go_sem,ya],by simp only[go_sem,ya]⟩
end
end VE
end
section
namespace VE
open Go (IntKind)
open Ieee
section
variable {a y:Rat}
def ayc{k j:Int}(h1:KP a k)(h2:KP a j):k=j:=by
 have key:∀{k j:Int},KP a k->KP a j->k<j->False:=fun {k j} h1 h2 aG=>by
  rcases h2.ge with g | g
  .obtain ⟨d,hd⟩:∃d:Nat,j=k+1+d:=⟨(j-k-1).toNat,by omega⟩;have e:a*p2 (-k)=a*p2 (-j)*p2 ((d+1:Nat):Int):=by
    rw[wF,<-eR,show -j+((d+1:Nat):Int)= -k by omega]
   have h3:=h1.lt;rw[e,fL] at h3;have h4:(2:Rat)<=((2^(d+1):Nat):Rat):=by
    have:2<=2^(d+1):=by
     have:=y8 (n:=2) (by decide) (show 1<=d+1 by omega)
     simpa using this
    exact_mod_cast this
   have h5:(8388608:Rat)*2<=a*p2 (-j)*((2^(d+1):Nat):Rat):=by
    have q1:(8388608:Rat)*2<=(a*p2 (-j))*2:=vJ g (by decide);have q2:(a*p2 (-j))*2<=(a*p2 (-j))*((2^(d+1):Nat):Rat):=vN h4 (ybj (by decide) g);exact ybj q1 q2
   grind
  .have:=h1.lo;omega
 rcases uT k j with c | c | c
 .exact (key h1 h2 c).elim
 .exact c
 .exact (key h2 h1 c).elim
def NF(a:Rat)(o:Option Nat):Prop:=
 (p2 128<=a/\o=Gs)\/(a<p2 128/\∃k,KP a k/\k<=104/\((nR (a*p2 (-k))=16777216/\k=104/\o=Gs)\/(¬(nR (a*p2 (-k))=16777216/\k=104)/\o=Gr (nR (a*p2 (-k))*2^(149+k).toNat))))
def afW{o q:Option Nat}(h1:NF a o)(h2:NF a q):o=q:=by
 rcases h1 with ⟨a1,rfl⟩ | ⟨a1,k,k1,k2,k3⟩
 .rcases h2 with ⟨_,rfl⟩ | ⟨b1,_⟩
  .rfl
  .exact absurd a1 (vZ.2 b1)
 .rcases h2 with ⟨b1,rfl⟩ | ⟨b1,j,j1,j2,j3⟩
  .exact absurd b1 (vZ.2 a1)
  .have:=ayc k1 j1
   subst this;rcases k3 with ⟨x1,x2,rfl⟩ | ⟨x1,rfl⟩
   .rcases j3 with ⟨_,_,rfl⟩ | ⟨y1,rfl⟩
    .rfl
    .exact absurd ⟨x1,x2⟩ y1
   .rcases j3 with ⟨y1,y2,rfl⟩ | ⟨_,rfl⟩
    .exact absurd ⟨y1,y2⟩ x1
    .rfl
def UC(h:0<=y):((y.floor.toNat:Nat):Int)=y.floor:=by
 have:0<=y.floor:=yci.2 h
 omega
def U7(h0:0<=y)(h:y<16777216):y.floor.toNat<16777216:=by
 have h1:=UC h0;have h2:((y.floor:Int):Rat)<=y:=ycZ y;have h3:((y.floor:Int):Rat)<((16777216:Int):Rat):=by
  have:((16777216:Int):Rat)=16777216:=rfl
  grind
 have:y.floor<16777216:=uA.1 h3
 omega
def ahD(h0:0<=y)(h:y<16777216):nR y<=16777216:=by
 have:=U7 h0 h
 unfold nR;split<;>omega
def aea(h0:0<=y)(h:y<fm):nR y=0:=by
 have hh:fm=1/2:=by decide+kernel
 have hf:y.floor=0:=by
  have h1:0<=y.floor:=yci.2 h0;have h2:((y.floor:Int):Rat)<=y:=ycZ y;have h3:((y.floor:Int):Rat)<((1:Int):Rat):=by
   rw[hh] at h
   have:((1:Int):Rat)=1:=rfl
   grind
  have:y.floor<1:=uA.1 h3
  omega
 unfold nR;rw[hf];rw[yp]
 .rfl
 .intro q;have e:((Int.toNat 0:Nat):Rat)=0:=rfl;rw[e] at q;rcases q with q | ⟨q,_⟩<;>grind
section
variable {P:aF}{L:Lib}
def afX(h:Fz P L)(ka:Hq 2600 a)(h0:0<=a):∃o,NF a o/\(match o with
  | none=>ab P L 388 [.str (RT a)] (.av [.an .f32 0,.bool ydz])
  | some M=>∃b,Fl b ydz M/\ab P L 388 [.str (RT a)] (.av [.an .f32 b,.bool ydy])):=by
 have e0:=Hu h.toRm (a:=a) ka (by decide);have hs:¬bK a.num<0:=fun q=>absurd ((oN a).1 q) (vQ.2 h0)
 have e1:=W6 h.toFy0 (k:=128) (by decide) (by decide);have e2:=HX h.toRp h.oA ka (B3 128 (by decide)) (by decide);have c2:=Ua (a-p2 128);unfold ab at e0 e1 e2;by_cases c:p2 128<=a
 .refine ⟨Gs,.inl ⟨c,rfl⟩,?_⟩;have hp:0<=bK (a-p2 128).num:=c2.2 (by grind);show ab P L 388 _ _
  unfold ab;rw[aD h.HZ];simp only[go_sem,ya,di,e0,hs,yu,e1,e2,hp,yv];rfl
 .have ha:a<p2 128:=vZ.1 c;have hp:¬0<=bK (a-p2 128).num:=fun q=>by have:=c2.1 q;grind
  have e3:=W6 h.toFy0 (k:= -151) (by decide) (by decide);have e4:=HX h.toRp h.oA ka (B3 (-151) (by decide)) (by decide);have c4:=oN (a-p2 (-151));unfold ab at e3 e4;by_cases cs:a<p2 (-151)
  .have hl:bK (a-p2 (-151)).num<0:=c4.2 (by grind);have hy:a*p2 149<fm:=by
    have h1:a*p2 149<p2 (-151)*p2 149:=(wP (mW _)).2 cs;rw[<-eR] at h1;have h2:p2 (-151+149)*4=1:=by
     have:=Hj 2
     rw[show p2 2=4 from fL 2] at this;exact this
    have hh:fm=1/2:=by decide+kernel
    rw[hh];grind
   have gS:0<=a*p2 149:=yaM h0 (ue (mW _));have hn:=aea gS hy;refine⟨Gr 0,.inr ⟨ha,-149,⟨by omega,?_,.inr rfl⟩,by omega,.inr ⟨?_,?_⟩⟩,0,Fl.zero,?_⟩
   .have hh:fm=1/2:=by decide+kernel
    rw[hh] at hy;show a*p2 149<16777216
    grind
   .intro q;exact absurd q.2 (by decide)
   .show Gr 0=Gr (nR (a*p2 149)*_)
    rw[hn,wz]
   .unfold ab;rw[aD h.HZ];simp only[go_sem,ya,di,e0,hs,yu,e1,e2,hp,e3,e4,hl,yv];rfl
  .have hl:¬bK (a-p2 (-151)).num<0:=fun q=>by have:=c4.1 q;grind
   have l0:=aya h ka ha 104
   have go:∀(k:Int),KP a k->k<=104->∃o,NF a o/\(match o with
     | none=>et di.c9 (D P L (cD 6 di.body) ⟨[(0,.str (RT (a*p2 (-k)))),(6,aa k)],[],0,0⟩)=Gr (.av [.an .f32 0,.bool ydz])
     | some M=>∃b,Fl b ydz M/\et di.c9 (D P L (cD 6 di.body) ⟨[(0,.str (RT (a*p2 (-k)))),(6,aa k)],[],0,0⟩)=Gr (.av [.an .f32 b,.bool ydy])):=by
    intro k hk iA;have gS:0<=a*p2 (-k):=yaM h0 (ue (mW _));have aZ:=hk.lo;have ky:Hq 3602 (a*p2 (-k)):=(ka.mul (B3 (-k) (by omega))).mono (by decide);have aG:=hk.lt;have aH0:=ahD gS aG;have Gj:∀{o:Option Nat},((nR (a*p2 (-k))=16777216/\k=104/\o=Gs)\/(¬(nR (a*p2 (-k))=16777216/\k=104)/\o=Gr (nR (a*p2 (-k))*2^(149+k).toNat)))->NF a o:=fun q=>.inr ⟨ha,k,hk,iA,q⟩
    have fin:∃o,NF a o/\∀tm:Env,ai tm 6=aa k->ai tm 7=aa (nR (a*p2 (-k)))->(match o with
      | none=>et di.c9 (D P L (cD 9 di.body) ⟨tm,[],0,0⟩)=Gr (.av [.an .f32 0,.bool ydz])
      | some M=>∃b,Fl b ydz M/\et di.c9 (D P L (cD 9 di.body) ⟨tm,[],0,0⟩)=Gr (.av [.an .f32 b,.bool ydy])):=by
     generalize nR (a*p2 (-k))=n at*
     by_cases z1:n=16777216
     .by_cases z2:k=104
      .refine ⟨Gs,Gj (.inl ⟨z1,z2,rfl⟩),fun tm t6 t7=>?_⟩;simp only[go_sem,ya,di,cD,aA,t6,t7,show ((n:Nat):Int)=16777216 by omega,z2,yv];rfl
      .obtain ⟨b,e,hb⟩:=ajk (P:=P) (L:=L) h.Sa (n:=n) (k:=k) (by omega) (by omega) (by omega) (fun _=>by omega);refine⟨Gr _,Gj (.inr ⟨fun q=>z2 q.2,rfl⟩),fun tm t6 t7=>⟨b,hb,?_⟩⟩;have hz:((n:Nat):Int)=16777216:=by omega
       rw[hz] at e;unfold ab at e;simp only[go_sem,ya,di,cD,aA,t6,t7,hz,z2,yv,yu,e];rfl
     .obtain ⟨b,e,hb⟩:=ajk (P:=P) (L:=L) h.Sa (n:=n) (k:=k) (by omega) (by omega) (by omega) (fun q=>absurd q z1);refine⟨Gr _,Gj (.inr ⟨fun q=>z1 q.1,rfl⟩),fun tm t6 t7=>⟨b,hb,?_⟩⟩;unfold ab at e;simp only[go_sem,ya,di,cD,aA,t6,t7,show ¬((n:Nat):Int)=16777216 by omega,yu,e];rfl
    have mN:=UC gS;have aCU:=U7 gS aG;have e5:=aCO h.toRm h.YE h.DB h.HY ky (by decide);rw[<-mN] at e5;have hR:nR (a*p2 (-k))=if fm<a*p2 (-k)-((a*p2 (-k)).floor.toNat:Rat)\/(a*p2 (-k)-((a*p2 (-k)).floor.toNat:Rat)=fm/\(a*p2 (-k)).floor.toNat%2=1) then (a*p2 (-k)).floor.toNat+1 else (a*p2 (-k)).floor.toNat:=rfl
    generalize (a*p2 (-k)).floor.toNat=n at*
    have e6:=aCS h.toRm h.YG h.DB (n:=n) (by omega);have e7:=W1 h.toRm h.MJ (n:=(n:Int)) (by omega);have kn:Hq 25 (((n:Nat):Int):Rat):=P3 (n:=n) (by omega) (by decide);have e8:=QA h.toRp ky kn (by decide);have kd:=ky.sub kn;have e9:=HX h.toRp h.oA kd YB (by decide);rw[ajd] at e9;have g1:=ab2 (a*p2 (-k)-(((n:Nat):Int):Rat)-fm);have g2:=ab3 (a*p2 (-k)-(((n:Nat):Int):Rat)-fm);have sd:(((n:Nat):Int):Rat)=(n:Rat):=rfl;have r2:Int.tmod (n:Int) 2=((n%2:Nat):Int):=by rw[xN (by omega)];omega
    have w1:IntKind.wrap .i64 ((n:Int)+1)=((n+1:Nat):Int):=wrap64 (by omega) (by omega);obtain⟨o,ho,ol⟩:=fin;refine⟨o,ho,?_⟩;rw[show cD 6 di.body=.seq (a8 (cD 6 di.body)) (.seq (a8 (cD 7 di.body)) (.seq (a8 (cD 8 di.body)) (cD 9 di.body))) from rfl];generalize cD 9 di.body=T at ol ⊢;unfold ab at e5 e6 e7 e8 e9;generalize bK (a*p2 (-k)-(((n:Nat):Int):Rat)-fm).num=σ at*
    rw[sd] at g1 g2;by_cases d1:0<σ
    .have hn:nR (a*p2 (-k))=n+1:=by rw[hR,yE (.inl (by have:=g1.1 d1;grind))]
     rw[hn] at ol
     have:=fun tm a b=>ol tm a b
     simp only[go_sem,ya,di,cD,aA,a8,e5,e6,fU,fS,fT,e7,e8,e9,d1,yv,w1];exact ol _ (by simp only[go_sem,ya]) (by simp only[go_sem])
    .by_cases d2:σ=0
     .have hq:=g2.1 d2;by_cases d3:n%2=1
      .have hn:nR (a*p2 (-k))=n+1:=by rw[hR,yE (.inr ⟨by grind,d3⟩)]
       rw[hn] at ol;simp only[go_sem,ya,di,cD,aA,a8,e5,e6,fU,fS,fT,e7,e8,e9,d2,eU _ _ _ (show (2:Int)≠0 by decide),r2,show ((n%2:Nat):Int)=1 by omega,ycP,yv,yu,w1];exact ol _ (by simp only[go_sem,ya]) (by simp only[go_sem])
      .have hn:nR (a*p2 (-k))=n:=by
        rw[hR,yp];rintro (q | ⟨_,q⟩)
        .exact d1 (g1.2 (by grind))
        .exact d3 q
       rw[hn] at ol;simp only[go_sem,ya,di,cD,aA,a8,e5,e6,fU,fS,fT,e7,e8,e9,d2,eU _ _ _ (show (2:Int)≠0 by decide),r2,show ¬((n%2:Nat):Int)=1 by omega,ycP,yv,yu];exact ol _ (by simp only[go_sem,ya]) (by simp only[go_sem,ya])
     .have hn:nR (a*p2 (-k))=n:=by
       rw[hR,yp];rintro (q | ⟨q,_⟩)
       .exact d1 (g1.2 (by grind))
       .exact d2 (g2.2 (by grind))
      rw[hn] at ol;simp only[go_sem,ya,di,cD,aA,a8,e5,e6,fU,fS,fT,e7,e8,e9,d1,d2,yu];exact ol _ (by simp only[go_sem,ya]) (by simp only[go_sem,ya])
   have cut:di.body=.seq (a8 di.body) (.seq (a8 (cD 0 di.body)) (.seq (a8 (cD 1 di.body)) (.seq (a8 (cD 2 di.body)) (.seq (a8 (cD 3 di.body)) (.seq (a8 (cD 4 di.body)) (.seq (a8 (cD 5 di.body)) (cD 6 di.body))))))):=rfl;have fin:∀{r:AV},et di.c9 (D P L di.body ⟨fa 0 [.str (RT a)],[],0,0⟩)=Gr r->ab P L 388 [.str (RT a)] r:=fun q=>by
    unfold ab;rw[aD h.HZ];exact q
   suffices hh:∃k,KP a k/\k<=104/\et di.c9 (D P L di.body ⟨fa 0 [.str (RT a)],[],0,0⟩)=et di.c9 (D P L (cD 6 di.body) ⟨[(0,.str (RT (a*p2 (-k)))),(6,aa k)],[],0,0⟩) by
    obtain⟨k,k1,k2,k3⟩:=hh;obtain⟨o,ho,hm⟩:=go k k1 k2;refine⟨o,ho,?_⟩
    cases o with
    | none=>exact fin (k3.trans hm)
    | some M=>
     obtain⟨b,hb,hm⟩:=hm;exact⟨b,hb,fin (k3.trans hm)⟩
   rw[cut];generalize cD 6 di.body=T;simp only[go_sem,ya,di,cD,aA,a8,e0,hs,yu,e1,e2,hp,e3,e4,hl];generalize hq:D P L (.loop _ K5) _=q;obtain⟨ex,st,rfl,tm,ct,i,rfl,rfl,i1,i2,i3,t0,t6⟩:=bg hq l0 ⟨0,by omega,fun q=>absurd rfl q,by rw[show a*p2 (-((0:Nat):Int))=a by rw[show -((0:Nat):Int)=0 by omega,pq,wO]];simp only[go_sem,ya,aq]<;>rfl⟩
   simp only[go_sem,aq,t0,t6];generalize hq:D P L (.loop _ GZ) _=q;have l1:=ayb (P:=P) (L:=L) h ka (a:=a) (i+149);obtain⟨ex,st,rfl,tm,ct,k,rfl,rfl,k1,k2,u0,u6⟩:=bg hq l1 ⟨(i:Int),by omega,by omega,i2,by simp only[go_sem,ya,aq]<;>rfl⟩
   refine⟨k,k1,k2,?_⟩;simp only[go_sem,aq,u0,u6]
end
end
end VE
end
section
namespace VE
open Go (IntKind)
open Ieee
def UD(b:Nat):bH (.an .f32 b)=.an .f32 b:=rfl
def cB(a:Rat):Rat:=if a<0 then -a else a
def lh(a:Rat)(M:Nat):Bool:=decide (a<0)&&decide (M≠0)
section
variable {P:aF}{L:Lib}
def aCV(h:Fz P L){a:Rat}(ka:Hq 2600 a):∃o,NF (cB a) o/\(match o with
  | none=>ab P L 388 [.str (RT a)] (.av [.an .f32 0,.bool ydz])
  | some M=>∃b,Fl b (lh a M) M/\ab P L 388 [.str (RT a)] (.av [.an .f32 b,.bool ydy])):=by
 by_cases c:a<0
 .have e0:=Hu h.toRm (a:=a) ka (by decide);have hs:bK a.num<0:=(oN a).2 c;have e1:=W2 h.toRp ka (by decide);have kn:Hq 2600 (-a):=⟨by rw[UB];unfold Bd;rw[Int.natAbs_neg];exact ka.1,ka.2⟩
  obtain⟨o,ho,hm⟩:=afX h kn (by grind);refine⟨o,by unfold cB;rw[yE c];exact ho,?_⟩
  have ez:=Qv Fl.zero Fl.zero;rw[yN rfl] at ez;unfold ab at e0 e1
  cases o with
  | none=>
   have e2:ab P L 388 [.str (RT (-a))] (.av [.an .f32 0,.bool ydz]):=hm;show ab P L 388 _ _
   unfold ab at e2;unfold ab;rw[aD h.HZ];simp only[go_sem,ya,di,e0,hs,yv,e1,e2,fU,fS,fT,UD,ez];rfl
  | some M=>
   obtain⟨b,hb,e2⟩:=hm;show ∃b,Fl b (lh a M) M/\ab P L 388 _ _
   have hz:=Qv hb Fl.zero;unfold ab at e2;by_cases m0:M=0
   .subst m0;rw[yN rfl] at hz;refine⟨0,by rw[show lh a 0=ydz by unfold lh;simp];exact Fl.zero,?_⟩
    unfold ab;rw[aD h.HZ];simp only[go_sem,ya,di,e0,hs,yv,e1,e2,fU,fS,fT,UD,hz];rfl
   .rw [yC (show ¬bk ydz M=bk ydz 0 by show ¬(M:Int)=((0:Nat):Int);omega)] at hz;obtain⟨b',e3,bE⟩:=aAr hb m0;refine⟨b',by rw[show lh a M=ydy by unfold lh;rw[yN c,yN m0];rfl];exact bE,?_⟩
    unfold ab;rw[aD h.HZ];simp only[go_sem,ya,di,e0,hs,yv,e1,e2,fU,fS,fT,UD,hz,e3];rfl
 .obtain ⟨o,ho,hm⟩:=afX h ka (vQ.1 c);refine⟨o,by unfold cB;rw[yp c];exact ho,?_⟩
  cases o with
  | none=>exact hm
  | some M=>
   obtain⟨b,hb,e⟩:=hm;exact⟨b,by rw[show lh a M=ydz by unfold lh;rw[yC c];rfl];exact hb,e⟩
end
end VE
end
section
namespace VE
open Go (IntKind)
section
variable {P:aF}{L:Lib}
def ahE(h:Tx P L){v:AV}{z:Int}{K:Nat}(hv:cz v z)(hz:Bd K z)(hK:K<=4000000000)(kY:z≠0):∃B:Nat,ab P L 172 [v] (aa B)/\z.natAbs<2^B/\0<B/\2^(B-1)<=z.natAbs/\B<=K+64:=by
 obtain⟨s,w,rfl,hn⟩:=hv;obtain⟨l,u⟩:=hn.aI;obtain⟨r,e1,hr⟩:=AQ h.toNu hn;obtain⟨ws,hw,g,NK,hb⟩:=hr;have hl:ws.length<=K/64+1:=po NK hb (yI hz (ad1 K));unfold ab at e1 ⊢;by_cases h0:ws=[]
 .subst h0;exact absurd (show z.natAbs=0 by rw[<-hb];rfl) (by omega)
 .have hp:0<ws.length:=List.length_pos_iff.2 h0;have n5:=Kc NK h0;have Aa:=iJ (show 0<18446744073709551616 by decide) g (ws.length-1);have ei:=hw.bj (i:=ws.length-1) (by omega);have eL:=jU (b:=18446744073709551616) (l:=ws) (ws.length-1);have DA:=nc (Bv g (ws.length-1));rw[yP,xo (by omega)] at DA;rw[show ws.length-1+1=ws.length by omega,yK (yx _)] at eL;generalize ws.getD (ws.length-1) 0=top at*
  have e2:=afL (P:=P) (f:=D P L) h.aiL Aa;have hle:=PF 64 top;have zE:=aeZ hp (vY n5) Aa eL DA;obtain⟨q1,q2,q3⟩:=TW 64 top Aa;obtain⟨q4,q5⟩:=q3 (vY n5);have aZ:2^(64*(ws.length-1)+dO 64 top-1)<=z.natAbs:=by
   rw[show 64*(ws.length-1)+dO 64 top-1=64*(ws.length-1)+(dO 64 top-1) by omega,xF,Nat.pow_mul,<-hb,eL];exact xi (Nat.mul_le_mul_left _ q5) (Nat.le_add_left _ _)
  rw[hb] at zE;refine⟨64*(ws.length-1)+dO 64 top,?_,zE,by omega,aZ,by omega⟩;rw[aD h.Yi]
  simp only[go_sem,ya,yb,L2,aQ,bZ,bP,u.pu,u.ah,u.one,e1,hw.len,show ¬(ws.length:Int)=0 by omega,show (ws.length:Int)-1=((ws.length-1:Nat):Int) by omega,wrapN (n:=ws.length-1) (by omega),show (64:Int)*((ws.length-1:Nat):Int)=((64*(ws.length-1):Nat):Int) by omega,wrapN (n:=64*(ws.length-1)) (by omega),ei,e2,show ((64*(ws.length-1):Nat):Int)+((dO 64 top:Nat):Int)=((64*(ws.length-1)+dO 64 top:Nat):Int) from rfl,wrapN (n:=64*(ws.length-1)+dO 64 top) (by omega)]
def aCW(h:Fr' P L)(ML:Has P L 150 LX)(MM:Has P L 229 HF){v:AV}{y:Rat}(hv:bW v y)(ky:Hq 5000 y)(h0:0<=y)(aG:y<16777216):ab P L 229 [v] (aa (nR y)):=by
 have mN:=UC h0;have aCU:=U7 h0 aG;have hR:nR y=if fm<y-(y.floor.toNat:Rat)\/(y-(y.floor.toNat:Rat)=fm/\y.floor.toNat%2=1) then y.floor.toNat+1 else y.floor.toNat:=rfl
 obtain⟨r,e1,hr⟩:=aB0 h hv ky (by decide);rw[<-mN] at hr;generalize y.floor.toNat=n at*
 have e2:=aCP ML hr (by omega) (by omega);obtain⟨q,e3,hq⟩:=RY h hr;have kn:Hq 25 (((n:Nat):Int):Rat):=P3 (n:=n) (by omega) (by decide);obtain⟨d,e4,hd⟩:=S7 h hv hq ky (kn.mono (by decide)) (by decide);obtain⟨o1,i1⟩:=BY h.toNu (z:=1) (by decide) (by decide);obtain⟨o2,i2⟩:=BY h.toNu (z:=2) (by decide) (by decide);obtain⟨hf,e5,hh⟩:=RX h i1 i2 (by decide) (K:=2) (by unfold Bd;decide) (by unfold Bd;decide) (by decide)
 have ahl:wW 1 2=fm:=by decide+kernel
 rw[ahl] at hh;have kd:Hq 6000 (y-(((n:Nat):Int):Rat)):=(ky.sub kn).mono (by decide);have e6:=S8 h hd hh kd (YB.mono (by decide)) (by decide);have sd:(((n:Nat):Int):Rat)=(n:Rat):=rfl;have r2:Int.tmod (n:Int) 2=((n%2:Nat):Int):=by rw[xN (by omega)];omega
 have w1:IntKind.wrap .i64 ((n:Int)+1)=((n+1:Nat):Int):=wrap64 (by omega) (by omega);have w0:IntKind.wrap .i64 ((n:Int)+((n%2:Nat):Int))=((n+n%2:Nat):Int):=wrap64 (by omega) (by omega);obtain⟨v1,v2,v3,v4,rfl,il⟩:=hv.gen;obtain⟨d1,d2,d3,d4,rfl,fd⟩:=hd.gen;obtain⟨h1,h2,h3,h4,rfl,fh⟩:=hh.gen;obtain⟨q1,q2,q3,q4,rfl,fq⟩:=hq.gen;obtain⟨s,w,rfl,hn⟩:=hr;obtain⟨l,u⟩:=hn.aI;unfold ab at e1 e2 e3 e4 e5 e6 o1 o2;have un:=zn
 rcases (show y-(n:Rat)<fm\/y-(n:Rat)=fm\/fm<y-(n:Rat) by
  by_cases a:y-(n:Rat)<fm
  .exact .inl a
  .by_cases b:y-(n:Rat)=fm
   .exact .inr (.inl b)
   .exact .inr (.inr (Rat.lt_of_le_of_ne (vQ.1 a) (fun c=>b c.symm)))) with c | c | c
 .have dZ:nR y=n:=by
   rw[hR,yp];rintro (q | ⟨q,_⟩)<;>grind
  have hc:jO (y-(((n:Nat):Int):Rat)) fm= -1:=by unfold jO;rw[sd,yE c]
  rw[hc] at e6;rw[dZ];unfold ab;rw[aD MM];simp only[go_sem,ya,yb,HF,aQ,il.ah,il.o1,il.o2,il.o3,il.o4,e1,u.ah,e2,e3,fq.ah,e4,fd.ah,fh.ah,o1,o2,e5,e6,bP,bh,fU,fS,fT,bZ,yg,dC u,ye,dV,yg,yaG,yu]
 .have hc:jO (y-(((n:Nat):Int):Rat)) fm=0:=by unfold jO;rw[sd,yp (by rw[c];exact ud),yE c]
  have dZ:nR y=n+n%2:=by
   rw[hR];by_cases q:n%2=1
   .rw [yE (.inr ⟨c,q⟩),q]
   .rw [yp (by rintro (x | ⟨_,x⟩)<;>grind)];omega
  rw[hc] at e6;rw[dZ];unfold ab;rw[aD MM];simp only[go_sem,ya,yb,HF,aQ,il.ah,il.o1,il.o2,il.o3,il.o4,e1,u.ah,e2,e3,fq.ah,e4,fd.ah,fh.ah,o1,o2,e5,e6,bP,bh,fU,fS,fT,bZ,yg,dC u,ye,dV,yg,yaG,yu,yv,eU _ _ _ (show (2:Int)≠0 by decide),r2,w0]
 .have dZ:nR y=n+1:=by rw[hR,yE (.inl c)]
  have hc:jO (y-(((n:Nat):Int):Rat)) fm=1:=by
   unfold jO;rw[sd,yp (by intro x;grind),yp (by intro x;grind)]
  rw[hc] at e6;rw[dZ];unfold ab;rw[aD MM];simp only[go_sem,ya,yb,HF,aQ,il.ah,il.o1,il.o2,il.o3,il.o4,e1,u.ah,e2,e3,fq.ah,e4,fd.ah,fh.ah,o1,o2,e5,e6,bP,bh,fU,fS,fT,bZ,yg,dC u,ye,dV,yg,yv,w1]
end
end VE
end
section
namespace VE
open Go (IntKind)
open Ieee
section
variable {e:Int}{m x:Nat}
def Ki{f:Format}{y n:Nat}{s t:Bool}{j:Int}(hx:oI f x s m e)(hy:oI f y t n j):f.order x y=Gr (if fv s m e<fv t n j then .lt else if fv s m e=fv t n j then .eq else .gt):=by
 unfold Format.order;rw[hx.read,hy.read];unfold Datum.order;have h1:=PG (m:=m) (s:=s) (show min e j<=e by omega);have h2:=PG (m:=n) (s:=t) (show min e j<=j by omega);have hp:=mW (min e j)
 dsimp only
 generalize signed s m (e-min e j).toNat=a at*
 generalize signed t n (j-min e j).toNat=b at*
 rw[<-h1,<-h2]
 congr 1
 have lt_iff:(a:Rat)*p2 (min e j)<(b:Rat)*p2 (min e j)↔a<b:=by
  rw[wP hp];exact uA
 have eq_iff:(a:Rat)*p2 (min e j)=(b:Rat)*p2 (min e j)↔a=b:=by
  constructor
  .intro q;rcases uT a b with c | c | c
   .have:=lt_iff.2 c;rw[q] at this;exact absurd this (ud)
   .exact c
   .have:=(wP hp).2 (uA.2 c);rw[q] at this;exact absurd this (ud)
  .intro q;rw[q]
 rcases uT a b with c | c | c
 .rw [yE (lt_iff.2 c)];exact Int.compare_eq_lt.2 c
 .rw [yp (fun q=>by have:=lt_iff.1 q;omega),yE (eq_iff.2 c)];exact Int.compare_eq_eq.2 c
 .rw [yp (fun q=>by have:=lt_iff.1 q;omega),yp (fun q=>by have:=eq_iff.1 q;omega)];exact Int.compare_eq_gt.2 c
structure Dn(b m:Nat)(e:Int):Prop where
 is:oI double b ydz m e
 nm:4503599627370496<=m
def Bi:double.leastPlace= -1074:=by decide
def Dn.b{b:Nat}(h:Dn b m e): -1074<=e/\m<9007199254740992/\e<=971:=by
 have h1:=h.is.can.lp;have h2:=h.is.can.lt;have h4:=h.is.lt;have h3:=h.nm;rw[Bi] at h1;have h4:(e-double.leastPlace).toNat*4503599627370496+m<9218868437227405312:=h4;rw[Bi] at h4;exact⟨h1,h2,by omega⟩
def Dn.bits{b:Nat}(h:Dn b m e):b=(e+1075).toNat*4503599627370496+(m-4503599627370496):=by
 have hb:=h.b;have hn:=h.nm
 have:=h.is.eq
 rw[this];show (e-double.leastPlace).toNat*4503599627370496+m=_
 rw[Bi];obtain⟨t,ht⟩:∃t:Nat,e=(t:Int)-1074:=⟨(e+1074).toNat,by omega⟩;rw[show (e - -1074).toNat=t by omega,show (e+1075).toNat=t+1 by omega];omega
def Dn.mk'(h1: -1074<=e)(h2:e<=971)(h3:4503599627370496<=m)(h4:m<9007199254740992):Dn ((e+1075).toNat*4503599627370496+(m-4503599627370496)) m e:=by
 refine⟨⟨⟨by rw[Bi];exact h1,h4,.inl h3⟩,?_,?_⟩,h3⟩
 .show (e-double.leastPlace).toNat*4503599627370496+m<9218868437227405312
  rw[Bi];omega
 .show _=(e-double.leastPlace).toNat*4503599627370496+m
  rw[Bi];obtain⟨t,ht⟩:∃t:Nat,e=(t:Int)-1074:=⟨(e+1074).toNat,by omega⟩;rw[show (e - -1074).toNat=t by omega,show (e+1075).toNat=t+1 by omega];omega
def am5(h:x<2^63):x&&&(2^63*1+(2^52-1))=x%2^52:=by
 refine Nat.eq_of_testBit_eq fun i=>?_
 rw[Nat.testBit_and,Nat.testBit_mod_two_pow,Nat.testBit_two_pow_mul_add _ (show 2^52-1<2^63 by decide)];by_cases c:i<63
 .rw [yE c,Nat.testBit_two_pow_sub_one,Bool.and_comm]
 .have:Nat.testBit x i=ydz:=Nat.testBit_lt_two_pow (yI h (y8 (by decide) (by omega)))
  rw[this];simp
def anR(h:x<9223372036854775808):binOp .andNot (.int .u64 (x:Int)) (.int .u64 9218868437227405312)=Gr (.int .u64 ((x%4503599627370496:Nat):Int)):=by
 show Gr (AV.int .u64 (IntKind.wrap .u64 ((xT 64 (x:Int)&&&~~~(xT 64 9218868437227405312)).toNat:Int)))=_
 rw[yao,ybD,vM,vM];rw[show ((x:Int)%((2^64:Nat):Int)).toNat=x by omega,show ((9218868437227405312:Int)%((2^64:Nat):Int)).toNat=9218868437227405312 by decide];rw[show 2^64-1-9218868437227405312=2^63*1+(2^52-1) by decide,am5 (show x<2^63 from h)]
 have:x%2^52<18446744073709551616:=xQ (Nat.mod_le _ _) (by omega)
 rw[wrapM,yR this]
def am6(h:x<9223372036854775808):binOp .andNot (.int .u64 (x:Int)) (.int .u64 9223372036854775808)=Gr (.int .u64 (x:Int)):=by
 show Gr (AV.int .u64 (IntKind.wrap .u64 ((xT 64 (x:Int)&&&~~~(xT 64 9223372036854775808)).toNat:Int)))=_
 rw[yao,ybD,vM,vM];rw[show ((x:Int)%((2^64:Nat):Int)).toNat=x by omega,show ((9223372036854775808:Int)%((2^64:Nat):Int)).toNat=9223372036854775808 by decide];rw[show 2^64-1-9223372036854775808=2^63-1 by decide,yaw,yR (show x<2^63 from h)];rw[wrapM,yR (by omega)]
def arD(h:x<2048):binOp .and (.int .i64 (x:Int)) (.int .i64 2047)=Gr (.int .i64 (x:Int)):=by
 show Gr (AV.int .i64 (IntKind.wrap .i64 ((xT 64 (x:Int)&&&xT 64 2047).toNat:Int)))=_
 rw[yao,vM,vM];rw[show ((x:Int)%((2^64:Nat):Int)).toNat=x by omega,show ((2047:Int)%((2^64:Nat):Int)).toNat=2^11-1 by decide,yaw,yR (show x<2^11 from h)];rw[wrap64 (by omega) (by omega)]
structure Fl'(P:aF)(L:Lib):Prop where
 ajl:Has P L 230 Q1
 ajm:Has P L 243 Q2
 aCX:Has P L 245 XB
 aCY:Has P L 246 XC
 aCZ:Has P L 247 XD
 aC0:L.pure 248=Gr OZ
 aC1:L.pure 251=Gr N6
 aC2:Has P L 252 XE
def zx(n:Nat)(hp:Hp)(b:Nat):freeze (n+1) hp (.an .f64 b)=Gr (.an .f64 b,hp):=rfl
def apw(b:Nat):bH (.an .f64 b)=.an .f64 b:=rfl
def Ar(b:Nat):shut (.an .f64 b)=.an .f64 b:=rfl
section
variable {P:aF}{L:Lib}
def ajn(h:Fl' P L)(b:Nat):ab P L 248 [.an .f64 b] (.int .u64 b):=by
 unfold ab;rw[jF h.aC0];rfl
def ajo(h:Fl' P L){b:Nat}(hb:b<18446744073709551616):ab P L 251 [.int .u64 b] (.an .f64 b):=by
 unfold ab;rw[jF h.aC1];rfl
def ajp(h:Fl' P L){b:Nat}(hb:Dn b m e):ab P L 252 [.an .f64 b] (.an .f64 b):=by
 have hx:b<9223372036854775808:=by
  have h1:=hb.bits;have h2:=hb.b;have h3:=hb.nm;omega
 have e1:=ajn h b;have e2:=am6 hx;have e3:=ajo h (b:=b) (by omega);unfold ab at e1 e3;unfold ab;rw[aD h.aC2];simp only[go_sem,ya,XE,zx,e1,e2,e3];rfl
def Dn.pos{b:Nat}(h:Dn b m e):fv ydz m e=(m:Rat)*p2 e:=by unfold fv sg;rw[yp (by decide),tn]
def maxD:oI double 9218868437227405311 ydz 9007199254740991 971:=⟨⟨by decide,by decide,.inl (by decide)⟩,by decide,by decide⟩
def minD:oI double 4503599627370496 ydz 4503599627370496 (-1074):=⟨⟨by decide,by decide,.inl (by decide)⟩,by decide,by decide⟩
def QB:oI double 0 ydz 0 (-1074):=⟨⟨by decide,by decide,.inr (by decide)⟩,by decide,by decide⟩
def Dn.Sb{b:Nat}(h:Dn b m e)(h1:1<=(m:Rat)*p2 e)(h2:(m:Rat)*p2 e<=16777216):
  binOp .eql (.an .f64 b) (.an .f64 0)=Gr (.bool ydz)/\binOp .gtr (.an .f64 b) (.an .f64 9218868437227405311)=Gr (.bool ydz)/\binOp .neq (.an .f64 b) (.an .f64 b)=Gr (.bool ydz)/\binOp .lss (.an .f64 b) (.an .f64 4503599627370496)=Gr (.bool ydz):=by
 have hp:=h.pos;have oz:=Ki h.is QB;have om:=Ki h.is maxD;have oo:=Ki h.is h.is;have on:=Ki h.is minD;have z:fv ydz 0 (-1074)=0:=by unfold fv;simp
 have mx:fv ydz 9007199254740991 971>16777216:=by
  unfold fv sg;rw[yp (by decide),tn,show p2 971=((2^971:Nat):Rat) from fL 971,<-xK]
  have:((16777216:Nat):Rat)<((9007199254740991*2^971:Nat):Rat):=by
   rw[tK];exact atT 16777216 9007199254740991 971 (by decide)
  exact this
 have mn:fv ydz 4503599627370496 (-1074)<1:=by
  unfold fv sg;rw[yp (by decide),tn];have e1:((4503599627370496:Nat):Rat)=p2 52:=(fL 52).symm;rw[e1,<-eR];have h3:=Hj 1022;have h4:(1:Rat)<p2 1022:=by
   exact axB 1022 (by decide)
  rw[show (52:Int)+ -1074= -1022 by decide];refine vZ.1 fun q=>?_
  have h5:1*p2 1022<=p2 (-1022)*p2 1022:=vJ q (ue (mW _));rw[h3,tn] at h5;exact absurd h4 (vQ.2 h5)
 rw[hp] at oz om oo on;refine⟨?_,?_,?_,?_⟩
 .show Gr (AV.bool (double.order b 0==Gr .eq))=_
  rw[oz,z,yp (by grind),yp (by grind)];rfl
 .show Gr (AV.bool (double.order b 9218868437227405311==Gr .gt))=_
  rw[om,yE (by grind)];rfl
 .show Gr (AV.bool (double.order b b !=Gr .eq))=_
  rw[oo,yp (by grind),yE rfl];rfl
 .show Gr (AV.bool (double.order b 4503599627370496==Gr .lt))=_
  rw[on,yp (by grind)]
  split<;>rfl
def aC3(h:Fl' P L){b:Nat}(hb:Dn b m e)(h1:1<=(m:Rat)*p2 e)(h2:(m:Rat)*p2 e<=16777216):ab P L 245 [.an .f64 b,.int .i64 0] (.bool ydz):=by
 obtain⟨_,c2,_,_⟩:=hb.Sb h1 h2;have e1:=ajp h hb;unfold ab at e1;unfold ab;rw[aD h.aCX];simp only[go_sem,ya,XB,zx,Ar,e1,c2,yv]
def aC4(h:Fl' P L){b:Nat}(hb:Dn b m e)(h1:1<=(m:Rat)*p2 e)(h2:(m:Rat)*p2 e<=16777216):ab P L 246 [.an .f64 b] (.bool ydz):=by
 obtain⟨_,_,c3,_⟩:=hb.Sb h1 h2;unfold ab;rw[aD h.aCY];simp only[go_sem,ya,XC,c3]
def aC5(h:Fl' P L){b:Nat}(hb:Dn b m e)(h1:1<=(m:Rat)*p2 e)(h2:(m:Rat)*p2 e<=16777216):ab P L 247 [.an .f64 b] (.av [.an .f64 b,aa 0]):=by
 obtain⟨_,_,_,c4⟩:=hb.Sb h1 h2;have e1:=ajp h hb;unfold ab at e1;unfold ab;rw[aD h.aCZ];simp only[go_sem,ya,XD,zx,Ar,e1,c4];rfl
def aC6:binOp .shr (.int .u64 (x:Int)) (.int .u64 52)=Gr (.int .u64 ((x/4503599627370496:Nat):Int)):=by
 rw[afD];show Gr (AV.int .u64 ((x:Int).fdiv 4503599627370496))=_
 rw[Int.fdiv_eq_ediv_of_nonneg _ (by decide)];rfl
def aC7(h:x<2048):binOp .shl (.int .u64 (x:Int)) (.int .u64 52)=Gr (.int .u64 ((x*4503599627370496:Nat):Int)):=by
 rw[afC];show Gr (AV.int .u64 (IntKind.wrap .u64 ((x:Int)*4503599627370496)))=_
 have:(x:Int)*4503599627370496=((x*4503599627370496:Nat):Int):=by rw[xx];rfl
 rw[this,wrapM,yR (by omega)]
def auf{F E:Nat}(h:F<4503599627370496):F|||E*4503599627370496=E*4503599627370496+F:=by
 have:=Nat.two_pow_add_eq_or_of_lt (i:=52) (b:=F) h E
 rw[Nat.or_comm,xg E];exact this.symm
def aC8:double.read 4607182418800017408=.number ydz 4503599627370496 (-52):=by decide
def aC9{y:Nat}(hr:double.read y=.number ydz m e):binOp .mul (.an .f64 4607182418800017408) (.an .f64 y)=Gr (.an .f64 (double.write (.number ydz (4503599627370496*m) (-52+e)))):=by
 have:double.mul 4607182418800017408 y=Gr (double.write (.number ydz (4503599627370496*m) (-52+e))):=by
  unfold Format.mul;rw[aC8,hr];rfl
 show (match double.mul 4607182418800017408 y with | some b=>Gr (AV.an .f64 b) | none=>Gs)=_
 rw[this]
def aDa(h:Fl' P L){b:Nat}{k:Int}(hb:Dn b m e)(he1: -52<=e)(he2:e<=-28)(h1:1<=(m:Rat)*p2 e)(h2:(m:Rat)*p2 e<=16777216)(ie: -149<=k)(iA:k<=104):∃r m' e',ab P L 243 [.an .f64 b,aa k] (.an .f64 r)/\oI double r ydz m' e'/\(m':Rat)*p2 e'=(m:Rat)*p2 (e+k):=by
 obtain⟨c1,_,_,_⟩:=hb.Sb h1 h2;have e1:=aC3 h hb h1 h2;have e2:=aC4 h hb h1 h2;have e3:=aC5 h hb h1 h2;have e4:=ajn h b;obtain⟨_,b2,_⟩:=hb.b;have hn:=hb.nm;have zE:=hb.bits;obtain⟨E,hE⟩:∃E:Nat,(E:Int)=e+1075:=⟨(e+1075).toNat,by omega⟩;obtain⟨F,hF⟩:∃F,m=4503599627370496+F:=⟨m-4503599627370496,by omega⟩;have hx:b=E*4503599627370496+F:=by rw[zE,show (e+1075).toNat=E by omega,hF];omega
 have hdiv:b/4503599627370496=E:=by omega
 have ns:b%4503599627370496=F:=by omega
 have q1:=aC6 (x:=b);rw[hdiv] at q1;have q2:=arD (x:=E) (by omega);have q3:=anR (x:=b) (by omega);rw[ns] at q3;obtain⟨G,hG⟩:∃G:Nat,(G:Int)=e+k+1075:=⟨(e+k+1075).toNat,by omega⟩;have q4:=aC7 (x:=G) (by omega);have q5:=SQ (a:=F) (b:=G*4503599627370496) (by omega) (by omega);rw[auf (by omega)] at q5;have hD:=Dn.mk' (m:=m) (e:=e+k) (by omega) (by omega) hn b2;rw[show (e+k+1075).toNat=G by omega,show m-4503599627370496=F by omega] at hD;have hyl:G*4503599627370496+F<18446744073709551616:=by omega
 obtain⟨Y,hY⟩:∃Y,Y=G*4503599627370496:=⟨_,rfl⟩;rw[<-hY] at q4 q5 hD hyl;obtain⟨y,hy⟩:∃y,y=Y+F:=⟨_,rfl⟩;rw[<-hy] at q5 hD hyl;have q6:=ajo h (b:=y) hyl;obtain⟨m',e',k1,k2,k3⟩:=wr (f:=double) (n:=m) (k:=e+k) (by omega) (show m<9007199254740992 from b2) (by rw[Bi];omega) (by rw[Bi];show _<=2047;omega) (m0:=4503599627370496*m) (e0:= -52+(e+k)) ydz (by
  have:((4503599627370496:Nat):Rat)=p2 52:=(fL 52).symm
  rw[xK,this];have h3:p2 52*(m:Rat)*p2 (-52+(e+k))=(m:Rat)*(p2 52*p2 (-52+(e+k))):=by grind
  rw[h3,<-eR,show (52:Int)+(-52+(e+k))=e+k by omega])
 have q7:=aC9 hD.is.read;refine⟨_,m',e',?_,k1,k3⟩;have w0:IntKind.wrap .i64 (k+0)=k:=by rw[Int.add_zero];exact wrap64 (by omega) (by omega)
 have w1:IntKind.wrap .i64 ((E:Nat):Int)=(E:Int):=wrap64 (by omega) (by omega);have w2:IntKind.wrap .i64 ((E:Int)-1023)=(E:Int)-1023:=wrap64 (by omega) (by omega);have w3:IntKind.wrap .i64 (k+((E:Int)-1023))=k+((E:Int)-1023):=wrap64 (by omega) (by omega);have w4:IntKind.wrap .i64 (k+((E:Int)-1023)+1023)=(G:Int):=by rw[wrap64 (by omega) (by omega)];omega
 have w5:IntKind.wrap .u64 (G:Int)=(G:Int):=by rw[wrapM,yR (by omega)]
 have cv1:iv (.toInt .i64) (.int .u64 (E:Int))=Gr (.int .i64 (E:Int)):=by show Gr (AV.int .i64 (IntKind.wrap .i64 (E:Int)))=_;rw[w1]
 have cv2:iv (.toInt .u64) (.int .i64 (G:Int))=Gr (.int .u64 (G:Int)):=by show Gr (AV.int .u64 (IntKind.wrap .u64 (G:Int)))=_;rw[w5]
 unfold ab at e1 e2 e3 e4 q6;unfold ab;rw[aD h.ajm];simp only[go_sem,ya,Q2,zx,c1,e1,e2,e3,fU,fS,fT,apw,Ar,w0,e4,q1,cv1,q2,w2,w3,show ¬k+((E:Int)-1023)< -1075 by omega,show ¬(1023:Int)<k+((E:Int)-1023) by omega,show ¬k+((E:Int)-1023)< -1022 by omega,yu,q3,w4,cv2,q4,q5,q6,q7];rfl
def aDb(h:Fl' P L){b:Nat}{k:Int}(hb:Dn b m e)(he1: -52<=e)(he2:e<=-28)(h1:1<=(m:Rat)*p2 e)(h2:(m:Rat)*p2 e<=16777216)(ie: -149<=k)(iA:k<=104):∃r m' e',ab P L 230 [.an .f64 b,aa k] (.an .f64 r)/\oI double r ydz m' e'/\(m':Rat)*p2 e'=(m:Rat)*p2 (e+k):=by
 obtain⟨r,m',e',q1,q2,q3⟩:=aDa h hb he1 he2 h1 h2 ie iA;refine⟨r,m',e',?_,q2,q3⟩;unfold ab at q1;unfold ab;rw[aD h.ajl];simp only[go_sem,ya,Q1,zx,q1,Ar];rfl
end
end
end VE
end
section
namespace VE
open Go (IntKind)
open Ieee
section
variable {k:Int}{n:Nat}
def ayd(h0:n≠0)(hn:n<=16777216):∃b m e,iv (.toFlt .f64) (.int .i64 (n:Int))=Gr (.an .f64 b)/\Dn b m e/\-52<=e/\e<=-28/\(m:Rat)*p2 e=(n:Rat):=by
 have hl:n.log2<25:=(Nat.log2_lt h0).2 (by omega);have h1:2^n.log2<=n:=Nat.log2_self_le h0;have h2:n<2^(n.log2+1):=Nat.lt_log2_self;obtain⟨j,hj⟩:∃j:Nat,n.log2+j=52:=⟨52-n.log2,by omega⟩;have sO:2^52<=n*2^j:=by
  have:=yX (2^j) h1
  rwa[<-xF,hj] at this
 have M9:n*2^j<2^53:=by
  have:=Nat.mul_lt_mul_of_pos_right h2 (xf j)
  rwa[<-xF,show n.log2+1+j=53 by omega] at this
 have hc:Can double (n*2^j) (-(j:Int)):=⟨by rw[Bi];omega,M9,.inl sO⟩;have hr:=ae0 hc (by rw[Bi];show _<=2047;omega)
 have hv:(n:Rat)*p2 0=((n*2^j:Nat):Rat)*p2 (-(j:Int)):=by
  rw[xK,<-fL,pq,wF,<-eR,show (j:Int)+ -(j:Int)=0 by omega,pq]
 have sX:n*2^j≠0:=uU (yI (by decide) sO);have hw:=ad2 hc sX ydz hv;rw[xo (by omega)] at hw;refine⟨double.write (.number ydz n 0),n*2^j,-(j:Int),?_,⟨⟨hc,hr,hw⟩,sO⟩,by omega,by omega,by rw[<-hv,pq,wO]⟩;show Gr (AV.an .f64 (double.write (.number (decide ((n:Int)<0)) (n:Int).natAbs 0)))=_
 rw[yC (by omega),xG]
def arE:iv (.toFlt .f64) (.int .i64 0)=Gr (.an .f64 0):=by
 show Gr (AV.an .f64 (double.write (.number ydz 0 0)))=_
 rw[show double.write (.number ydz 0 0)=0 by decide]
def afY{r m:Nat}{e:Int}(hr:oI double r ydz m e)(hn:n<=16777216)(ie: -149<=k)(iA:k<=104)(Eh:n=16777216->k<104)(hv:(m:Rat)*p2 e=(n:Rat)*p2 k):∃b,iv (.toFlt .f32) (.an .f64 r)=Gr (.an .f32 b)/\Fl b ydz (n*2^(149+k).toNat):=by
 have e0:iv (.toFlt .f32) (.an .f64 r)=(match double.read r with
  | .number sg m e=>if (single.read (single.write (.number sg m e))).isInfinity then Gs else Gr (.an .f32 (single.write (.number sg m e)))
  | _=>Gs):=rfl
 have hsc:∀{m':Nat} {e':Int},-149<=e'->(m':Rat)*p2 e'=(n:Rat)*p2 k->n*2^(149+k).toNat=cO m' e':=fun {m' e'} h1 h2=>by
  have h3:=VB (m:=m') (n:=n) h1 ie h2;rw[h3];unfold cO;rw[Int.add_comm]
 have fin:∀{m':Nat} {e':Int},oJ (single.write (.number ydz m e)) ydz m' e'->(m':Rat)*p2 e'=(n:Rat)*p2 k->∃b,iv (.toFlt .f32) (.an .f64 r)=Gr (.an .f32 b)/\Fl b ydz (n*2^(149+k).toNat):=fun {m' e'} h1 h2=>by
  refine⟨_,?_,m',e',h1,hsc h1.b.1 h2⟩;rw[e0,hr.read]
  dsimp only
  rw[h1.read];rfl
 by_cases n0:n=0
 .subst n0;have hm:m=0:=by
   have h1:(m:Rat)*p2 e=0:=by rw[hv];simp
   rcases Rat.mul_eq_zero.1 h1 with q | q
   .exact_mod_cast q
   .exact absurd q (Qu e)
  subst hm;exact fin (R2 ydz e) (by simp)
 .by_cases c:n<16777216
  .obtain ⟨m',e',k1,_,k3⟩:=Cr (n:=n) (k:=k) n0 c ie iA ydz hv;exact fin k1 k3
  .have dJ:n=16777216:=by omega
   have Th:=Eh dJ;have cU:(n:Rat)*p2 k=((8388608:Nat):Rat)*p2 (k+1):=by
    rw[dJ,eR,sq]
    have:((16777216:Nat):Rat)=((8388608:Nat):Rat)*2:=by decide+kernel
    rw[this];grind
   obtain⟨m',e',k1,_,k3⟩:=Cr (n:=8388608) (k:=k+1) (by decide) (by decide) (by omega) (by omega) ydz (hv.trans cU);exact fin k1 (k3.trans cU.symm)
section
variable {P:aF}{L:Lib}
def aye(h:Fl' P L):ab P L 230 [.an .f64 0,aa k] (.an .f64 0):=by
 have c0:binOp .eql (.an .f64 0) (.an .f64 0)=Gr (.bool ydy):=by
  show Gr (AV.bool (double.order 0 0==Gr .eq))=_
  rw[Ki QB QB,yp ud,yE rfl];rfl
 have e1:ab P L 243 [.an .f64 0,aa k] (.an .f64 0):=by
  unfold ab;rw[aD h.ajm];simp only[go_sem,ya,Q2,c0];rfl
 unfold ab at e1;unfold ab;rw[aD h.ajl];simp only[go_sem,ya,Q1,zx,e1,Ar];rfl
def aDc(h:Fl' P L)(hn:n<=16777216)(ie: -149<=k)(iA:k<=104)(Eh:n=16777216->k<104):∃b r c,iv (.toFlt .f64) (.int .i64 (n:Int))=Gr (.an .f64 b)/\ab P L 230 [.an .f64 b,aa k] (.an .f64 r)/\iv (.toFlt .f32) (.an .f64 r)=Gr (.an .f32 c)/\Fl c ydz (n*2^(149+k).toNat):=by
 by_cases n0:n=0
 .subst n0;obtain⟨c,e1,hc⟩:=afY QB (n:=0) (k:=k) hn ie iA Eh (by simp);exact⟨0,0,c,arE,aye h,e1,hc⟩
 .obtain ⟨b,m,e,q1,q2,q3,q4,q5⟩:=ayd n0 hn;have h1:(1:Rat)<=(m:Rat)*p2 e:=by
   rw[q5]
   have:((1:Nat):Rat)<=((n:Nat):Rat):=vR.2 (by omega)
   exact this
  have h2:(m:Rat)*p2 e<=16777216:=by
   rw[q5]
   have:((n:Nat):Rat)<=((16777216:Nat):Rat):=vR.2 hn
   exact this
  obtain⟨r,m',e',k1,k2,k3⟩:=aDb h q2 q3 q4 h1 h2 ie iA;obtain⟨c,e1,hc⟩:=afY k2 (n:=n) (k:=k) hn ie iA Eh (by rw[k3,eR,<-wF,q5]);exact⟨b,r,c,q1,k1,e1,hc⟩
end
end
end VE
end
section
namespace VE
open Go (IntKind)
open Ieee
def QC{a b:Int}(h:a<=b):p2 a<=p2 b:=by
 obtain⟨d,rfl⟩:∃d:Nat,b=a+d:=⟨(b-a).toNat,by omega⟩;rw[eR,fL];have h1:(1:Rat)<=((2^d:Nat):Rat):=by
  have:((1:Nat):Rat)<=((2^d:Nat):Rat):=vR.2 (xf d)
  exact this
 have:=vN h1 (ue (mW a))
 rwa[wO] at this
def aAs{a b:Int}(h:p2 a<p2 b):a<b:=yaL.1 fun q=>absurd (QC q) (vZ.2 h)
def aeb(a:Rat):(cB a).num=(a.num.natAbs:Nat)/\(cB a).den=a.den:=by
 unfold cB;by_cases c:a<0
 .have:a.num<0:=yaL.1 fun q=>absurd (tX.1 q) (vZ.2 c)
  rw[yE c,UB];exact⟨by omega,rfl⟩
 .have:0<=a.num:=tX.2 (vQ.1 c)
  rw[yp c];exact⟨by omega,rfl⟩
def ae9(a:Rat):0<=cB a:=by
 unfold cB
 split<;>grind
def arG(a:Rat):cB a*(a.den:Rat)=(a.num.natAbs:Rat):=by
 have h:=aeb a;have e0:((cB a).num:Rat)/(((cB a).den:Int):Rat)=cB a:=by rw[<-yar];exact Rat.num_divInt_den _
 have h0:(((cB a).den:Int):Rat)≠0:=fun e=>by
  have:((cB a).den:Int)=0:=by exact_mod_cast e
  have:=(cB a).den_nz
  omega
 have h1:cB a*(((cB a).den:Int):Rat)=((cB a).num:Rat):=by
  conv=>lhs;lhs;rw[<-e0]
  rw[Rat.div_def,wF,Rat.inv_mul_cancel _ h0,wO]
 rw[h.1,h.2] at h1;exact h1
def amy{a:Rat}{B C:Nat}(h1:2^(B-1)<=a.num.natAbs)(hB:0<B)(h2:a.num.natAbs<2^B)(h3:2^(C-1)<=a.den)(hC:0<C)(h4:a.den<2^C):p2 ((B:Int)-C-24+23)<=cB a/\cB a<p2 ((B:Int)-C-24+25):=by
 have hm:=arG a;have hn:=ae9 a;have c1:p2 ((B:Int)-1)<=(a.num.natAbs:Rat):=by
  rw[show (B:Int)-1=((B-1:Nat):Int) by omega,fL];exact vR.2 h1
 have c2:(a.num.natAbs:Rat)<p2 B:=by rw[fL];exact tK.2 h2
 have c3:p2 ((C:Int)-1)<=(a.den:Rat):=by
  rw[show (C:Int)-1=((C-1:Nat):Int) by omega,fL];exact vR.2 h3
 have c4:(a.den:Rat)<p2 C:=by rw[fL];exact tK.2 h4
 rw[<-hm] at c1 c2;constructor
 .have h5:p2 ((B:Int)-1)<=cB a*p2 C:=ybj c1 (vN (ue c4) hn);have h6:=vJ h5 (ue (mW (-(C:Int))));rw[wF,<-eR,<-eR,show (C:Int)+ -(C:Int)=0 by omega,pq,wO,show (B:Int)-1+ -(C:Int)=(B:Int)-C-24+23 by omega] at h6;exact h6
 .have h5:cB a*p2 ((C:Int)-1)<p2 B:=by
   have:=vN c3 hn
   grind
  have h6:=(wP (mW (-((C:Int)-1)))).2 h5;rw[wF,<-eR,<-eR,show (C:Int)-1+ -((C:Int)-1)=0 by omega,pq,wO,show (B:Int)+ -((C:Int)-1)=(B:Int)-C-24+25 by omega] at h6;exact h6
def aAt{A:Rat}{k:Int}(h1:p2 (k+23)<=A)(h2:A<p2 (k+24)):KP A (max k (-149))/\(max k (-149)<=104->A<p2 128)/\(104<max k (-149)->p2 128<=A):=by
 have e24:(16777216:Rat)=p2 24:=(fL 24).symm;have e23:(8388608:Rat)=p2 23:=(fL 23).symm;refine⟨⟨by omega,?_,?_⟩,fun h=>?_,fun h=>?_⟩
 .rw [e24];have h3:A<p2 (max k (-149)+24):=by
   have:=QC (show k+24<=max k (-149)+24 by omega)
   grind
  have h4:=(wP (mW (-(max k (-149))))).2 h3
  rwa[<-eR,show max k (-149)+24+ -(max k (-149))=24 by omega] at h4
 .by_cases c:k< -149
  .right;omega
  .left
   rw[e23];have h4:=vJ h1 (ue (mW (-(max k (-149)))))
   rwa[<-eR,show k+23+ -(max k (-149))=23 by omega] at h4
 .have:=QC (show k+24<=128 by omega)
  grind
 .have:=QC (show (128:Int)<=k+23 by omega)
  grind
end VE
end
section
namespace VE
open Go (IntKind)
open Ieee
def arH(a b:Rat):0<=jO a b↔b<=a:=by
 unfold jO;by_cases c:a<b
 .rw [yE c];exact⟨fun h=>absurd h (by decide),fun h=>absurd c (vQ.2 h)⟩
 .rw [yp c];refine⟨fun _=>vQ.1 c,fun _=>?_⟩
  split<;>decide
structure Fnp(P:aF)(L:Lib):Prop extends Ck P L,Fl' P L where
 ML:Has P L 150 LX
 ajq:Has P L 202 fO
 FN:Has P L 228 HE
 MM:Has P L 229 HF
 B2:Has P L 241 HG
section
variable {P:aF}{L:Lib}
def ayf(h:Fnp P L){A:Rat}(kA:Hq 2600 A){c1 c2 c3 c4 x1 x2 x3 x4:AV}(hc:bW (.agg [c1,c2,c3,c4]) A)(fc:F4 c1 c2 c3 c4){k0:Int}(DK: -5000<=k0/\k0<=5000)(hA:A<p2 (k0+25)):
  cE P L [5,6,7] KO (fun d st=>∃(k:Int),k+d=k0+1/\k0<=k/\p2 (k+23)<=A/\st=⟨[(5,.ptr 0 0),(6,.ptr 1 0),(7,aa k)],[(1,.cells ydy ydy ydy 4 [c1,c2,c3,c4]),(0,.cells ydy ydy ydy 4 [x1,x2,x3,x4])],2,0⟩) (fun ex s'=>∃tm ct,∃k:Int,s'=⟨tm,[(1,.cells ydy ydy ydy 4 [c1,c2,c3,c4]),(0,.cells ydy ydy ydy 4 [x1,x2,x3,x4])],ct,0⟩/\ex=.exit 0/\k0<=k/\k<=k0+1/\p2 (k+23)<=A/\A<p2 (k+24)/\ai tm 5=.ptr 0 0/\ai tm 6=.ptr 1 0/\ai tm 7=aa k):=by
 apply cI;rintro d st ⟨k,hd,hk,aZ,rfl⟩;obtain⟨v,e1,hv⟩:=YD h.toFr' h.qH h.B2 h.FN (k:=k+24) (by omega);have kv:Hq 6000 (p2 (k+24)):=(W3 _).mono (by omega);have e2:=S8 h.toFr' hc hv (kA.mono (show 2600<=6000 by decide)) kv (by decide);obtain⟨v1,v2,v3,v4,rfl,il⟩:=hv.gen;have wk:IntKind.wrap .i64 (k+24)=k+24:=wrap64 (by omega) (by omega);have hg:=arH A (p2 (k+24));unfold ab at e1 e2;by_cases c:p2 (k+24)<=A
 .left
  have aG:=aAs (show p2 (k+24)<p2 (k0+25) by grind);have wk1:IntKind.wrap .i64 (k+1)=k+1:=wrap64 (by omega) (by omega);simp only[go_sem,ya,KO,dV,yg,wk,fc.ah,il.ah,e1,e2,bh,hg.2 c,yv,wk1];refine⟨_,d-1,rfl,by omega,k+1,by omega,by omega,by rw[show k+1+23=k+24 by omega];exact c,?_⟩
  simp only[go_sem,ya,yb,aq]<;>rfl
 .right
  simp only[go_sem,ya,KO,dV,yg,wk,fc.ah,il.ah,e1,e2,bh,show ¬0<=jO A (p2 (k+24)) from fun q=>c (hg.1 q),yu];exact⟨_,_,rfl,by simp,_,_,k,rfl,rfl,hk,by omega,aZ,vZ.1 c,by simp only[go_sem,ya],by simp only[go_sem,ya],by simp only[go_sem,ya]⟩
end
end VE
end
section
namespace VE
open Go (IntKind)
open Ieee
section
variable {P:aF}{L:Lib}
def ayg(h:Fnp P L){a:Rat}(kA:Hq 2600 (cB a)){c1 c2 c3 c4 x1 x2 x3 x4:AV}(hc:bW (.agg [c1,c2,c3,c4]) (cB a))(fc:F4 c1 c2 c3 c4)(hx:bW (.agg [x1,x2,x3,x4]) a)(fx:F4 x1 x2 x3 x4){k:Int}(hk: -5100<=k/\k<=5100)(aZ:p2 (k+23)<=cB a)(gR:cB a<p2 (k+24)):
  ∃o,NF (cB a) o/\(match o with
   | none=>et fO.c9 (D P L (cD 6 fO.body) ⟨[(5,.ptr 0 0),(6,.ptr 1 0),(7,aa k)],[(1,.cells ydy ydy ydy 4 [c1,c2,c3,c4]),(0,.cells ydy ydy ydy 4 [x1,x2,x3,x4])],2,0⟩)=Gr (.av [.an .f32 0,aa 4])
   | some M=>∃b,Fl b (lh a M) M/\et fO.c9 (D P L (cD 6 fO.body) ⟨[(5,.ptr 0 0),(6,.ptr 1 0),(7,aa k)],[(1,.cells ydy ydy ydy 4 [c1,c2,c3,c4]),(0,.cells ydy ydy ydy 4 [x1,x2,x3,x4])],2,0⟩)=Gr (.av [.an .f32 b,aa 0])):=by
 obtain⟨K1,K2,K3⟩:=aAt aZ gR;have BO:(if (-149:Int)>k then (-149:Int) else k)=max k (-149):=by split<;>omega
 generalize lK:max k (-149)=j at*
 by_cases cj:104<j
 .refine ⟨Gs,.inl ⟨K3 cj,rfl⟩,?_⟩;simp only[go_sem,ya,fO,cD,aA,oT,rG,BO,cj,yv];rfl
 .have hA:=K2 (by omega);have FU:=K1.lo;have hA0:=ae9 a;have gS:0<=cB a*p2 (-j):=yaM hA0 (ue (mW _));have ylt:=K1.lt;have wn:IntKind.wrap .i64 (0-j)= -j:=by rw[show (0:Int)-j= -j by omega];exact wrap64 (by omega) (by omega)
  obtain⟨u,e1,hu⟩:=YD h.toFr' h.qH h.B2 h.FN (k:= -j) (by omega);have ku:Hq 1001 (p2 (-j)):=B3 _ (by omega);obtain⟨v,e2,hv⟩:=NH h.toFr' hc hu kA (ku.mono (show 1001<=2600 by decide)) (by decide);have ky:Hq 5000 (cB a*p2 (-j)):=(kA.mul ku).mono (by decide);have e3:=aCW h.toFr' h.ML h.MM hv ky gS ylt;have nle:=ahD gS ylt;have Gj:∀{o:Option Nat},((nR (cB a*p2 (-j))=16777216/\j=104/\o=Gs)\/(¬(nR (cB a*p2 (-j))=16777216/\j=104)/\o=Gr (nR (cB a*p2 (-j))*2^(149+j).toNat)))->NF (cB a) o:=fun q=>.inr ⟨hA,j,K1,by omega,q⟩
  obtain⟨u1,u2,u3,u4,rfl,fu⟩:=hu.gen;obtain⟨v1,v2,v3,v4,rfl,il⟩:=hv.gen;have e4:=MB h.toFr' hx;have nE:=oN a;unfold ab at e1 e2 e3 e4;generalize nR (cB a*p2 (-j))=n at*
  by_cases z:n=16777216/\j=104
  .obtain ⟨z1,z2⟩:=z;have hz:((n:Nat):Int)=16777216:=by omega
   refine⟨Gs,Gj (.inl ⟨z1,z2,rfl⟩),?_⟩;subst z2;simp only[go_sem,ya,fO,cD,aA,oT,rG,BO,cj,yu,dV,yg,fc.ah,wn,e1,bh,fu.ah,e2,il.ah,e3,hz,yv];rfl
  .obtain ⟨b,r,c,q1,q2,q3,q4⟩:=aDc (P:=P) (L:=L) h.toFl' (n:=n) (k:=j) nle FU (by omega) (fun x=>by omega);have Bh:n*2^(149+j).toNat≠0↔0<n:=by
    have:=xf (149+j).toNat
    constructor
    .intro x;exact vY fun y=>x (by rw[y,wz])
    .intro x;exact uU (Nat.mul_pos x this)
   unfold ab at q2;by_cases s1:a<0/\0<n
   .have hs:=nE.2 s1.1;refine⟨Gr _,Gj (.inr ⟨z,rfl⟩),c^^^2147483648,?_,?_⟩
    .rw [show lh a (n*2^(149+j).toNat)=ydy by unfold lh;rw[yN s1.1,yN (Bh.2 s1.2)];rfl]
     exact q4.neg
    .by_cases z1:n=16777216
     .have hz:((n:Nat):Int)=16777216:=by omega
      have z2:¬j=104:=fun x=>z ⟨z1,x⟩
      rw[hz] at q1;simp only[go_sem,ya,fO,cD,aA,oT,rG,BO,cj,yu,dV,yg,fc.ah,wn,e1,bh,fu.ah,e2,il.ah,e3,hz,z2,yv,q1,zx,q2,Ar,q3,fx.ah,e4,hs,show (0:Int)<16777216 by decide,Qw];rfl
     .simp only [go_sem,ya,fO,cD,aA,oT,rG,BO,cj,yu,dV,yg,fc.ah,wn,e1,bh,fu.ah,e2,il.ah,e3,show ¬((n:Nat):Int)=16777216 by omega,q1,zx,q2,Ar,q3,fx.ah,e4,hs,show (0:Int)<(n:Int) by omega,yv,Qw];rfl
   .refine ⟨Gr _,Gj (.inr ⟨z,rfl⟩),c,?_,?_⟩
    .rw [show lh a (n*2^(149+j).toNat)=ydz by
      unfold lh;by_cases x:a<0
      .rw [yC (fun y=>s1 ⟨x,Bh.1 y⟩),Bool.and_false]
      .rw [yC x];rfl]
     exact q4
    .by_cases x:a<0
     .have hs:=nE.2 x;have n0:¬(0:Int)<(n:Int):=fun y=>s1 ⟨x,by omega⟩
      simp only[go_sem,ya,fO,cD,aA,oT,rG,BO,cj,yu,dV,yg,fc.ah,wn,e1,bh,fu.ah,e2,il.ah,e3,show ¬((n:Nat):Int)=16777216 by omega,q1,zx,q2,Ar,q3,fx.ah,e4,hs,n0,yv];rfl
     .have hs:¬bK a.num<0:=fun y=>x (nE.1 y)
      by_cases z1:n=16777216
      .have hz:((n:Nat):Int)=16777216:=by omega
       have z2:¬j=104:=fun x=>z ⟨z1,x⟩
       rw[hz] at q1;simp only[go_sem,ya,fO,cD,aA,oT,rG,BO,cj,yu,dV,yg,fc.ah,wn,e1,bh,fu.ah,e2,il.ah,e3,hz,z2,yv,q1,zx,q2,Ar,q3,fx.ah,e4,hs];rfl
      .simp only [go_sem,ya,fO,cD,aA,oT,rG,BO,cj,yu,dV,yg,fc.ah,wn,e1,bh,fu.ah,e2,il.ah,e3,show ¬((n:Nat):Int)=16777216 by omega,q1,zx,q2,Ar,q3,fx.ah,e4,hs];rfl
end
end VE
end
section
namespace VE
open Go (IntKind)
open Ieee
def aDd:NF 0 (Gr 0):=by
 refine .inr ⟨mW 128,-149,⟨by omega,by rw[yda];decide,.inr rfl⟩,by omega,.inr ⟨fun q=>absurd q.2 (by decide),?_⟩⟩
 rw[yda,aea Rat.le_refl (by decide+kernel),wz]
section
variable {P:aF}{L:Lib}
def aDe(h:Fnp P L){a:Rat}(ka:Hq 2600 a)(hc:bX (RT a)=0):∃o,NF (cB a) o/\(match o with
  | none=>ab P L 202 [.str (RT a)] (.av [.an .f32 0,aa 4])
  | some M=>∃b,Fl b (lh a M) M/\ab P L 202 [.str (RT a)] (.av [.an .f32 b,aa 0])):=by
 have hlen:=C6 ka;have e1:=Tf h.toCk (s:=RT a) (by omega);rw[hc] at e1;obtain⟨x,e2,hx⟩:=m62 h.toTx (a:=a) (by omega);have e3:=MB h.toFr' hx;have nF:=hx;obtain⟨s1,w1,s2,w2,rfl,k1,k2⟩:=hx;have fx:F4 (aa s1) w1 (aa s2) w2:=by
  obtain⟨_,_,_,_,e,g⟩:=bW.gen nF;simp only[AV.agg.injEq,uG,vL] at e;obtain⟨rfl,rfl,rfl,rfl⟩:=e;exact g
 obtain⟨l1,u1⟩:=k1.aI;obtain⟨l2,u2⟩:=k2.aI;by_cases h0:a=0
 .subst h0;have hs:bK (0:Rat).num=0:=by decide
  rw[hs] at e3;refine⟨Gr 0,by rw[show cB 0=0 by unfold cB;rw[yp ud]];exact aDd,0,by rw[show lh 0 0=ydz by unfold lh;simp];exact Fl.zero,?_⟩
  unfold ab at e1 e2 e3;unfold ab;rw[aD h.ajq];simp only[go_sem,ya,yb,fO,e1,yv,yO,e2,aQ,fx.st,fx.ah,bh,dV,yg,e3];rfl
 .have hz:(a.num.natAbs:Int)≠0:=by
   intro q;have hn:a.num=0:=by omega
   exact h0 (Rat.num_eq_zero.1 hn)
  have Gk:¬bK a.num=0:=fun q=>h0 ((ab3 a).1 q)
  have rn:=aeb a;obtain⟨r,e4,hr⟩:=X9 h.toNu (z:=a.num) ⟨s1,w1,rfl,k1⟩ ka.1 (by decide);obtain⟨s3,w3,rfl,k3⟩:=hr;obtain⟨l3,u3⟩:=k3.aI;have hS:bW (.agg [aa s3,w3,aa s2,w2]) (cB a):=⟨s3,w3,s2,w2,rfl,by rw[rn.1];exact k3,by rw[rn.2];exact k2⟩
  have fs:F4 (aa s3) w3 (aa s2) w2:=by
   obtain⟨_,_,_,_,e,g⟩:=bW.gen hS;simp only[AV.agg.injEq,uG,vL] at e;obtain⟨rfl,rfl,rfl,rfl⟩:=e;exact g
  have kA:Hq 2600 (cB a):=⟨by rw[rn.1];unfold Bd;rw[xG];exact ka.1,by rw[rn.2];exact ka.2⟩
  obtain⟨B,e5,b1,b2,b3,b4⟩:=ahE h.toTx (z:=(a.num.natAbs:Int)) ⟨s3,w3,rfl,k3⟩ (K:=2600) (by unfold Bd;rw[xG];exact ka.1) (by decide) hz
  obtain⟨C,e6,d1,d2,d3,d4⟩:=ahE h.toTx (z:=(a.den:Int)) ⟨s2,w2,rfl,k2⟩ ka.2 (by decide) (by have:=a.den_nz;omega);rw[xG] at b1 b3 d1 d3;obtain⟨g1,g2⟩:=amy b3 b2 b1 d3 d2 d1;have wk1:IntKind.wrap .i64 ((B:Int)-C)=(B:Int)-C:=wrap64 (by omega) (by omega);have wk2:IntKind.wrap .i64 ((B:Int)-C-24)=(B:Int)-C-24:=wrap64 (by omega) (by omega);have lp:=ayf (P:=P) (L:=L) h kA hS fs (x1:=aa s1) (x2:=w1) (x3:=aa s2) (x4:=w2) (k0:=(B:Int)-C-24) (by omega) g2 1;have go:=fun k hk lo hi=>ayg h kA hS fs nF fx (k:=k) hk lo hi
  suffices hh:∃k:Int,(-5100<=k/\k<=5100)/\p2 (k+23)<=cB a/\cB a<p2 (k+24)/\et fO.c9 (D P L fO.body ⟨fa 0 [.str (RT a)],[],0,0⟩)=et fO.c9 (D P L (cD 6 fO.body) ⟨[(5,.ptr 0 0),(6,.ptr 1 0),(7,aa k)],[(1,.cells ydy ydy ydy 4 [aa s3,w3,aa s2,w2]),(0,.cells ydy ydy ydy 4 [aa s1,w1,aa s2,w2])],2,0⟩) by
   obtain⟨k,hk,lo,hi,hq⟩:=hh;have fin:∀{r:AV},et fO.c9 (D P L fO.body ⟨fa 0 [.str (RT a)],[],0,0⟩)=Gr r->ab P L 202 [.str (RT a)] r:=fun q=>by
    unfold ab;rw[aD h.ajq];exact q
   obtain⟨o,ho,hm⟩:=go k hk lo hi;refine⟨o,ho,?_⟩
   cases o with
   | none=>exact fin (hq.trans hm)
   | some M=>
    obtain⟨b,hb,hm⟩:=hm;exact⟨b,hb,fin (hq.trans hm)⟩
  unfold ab at e1 e2 e3 e4 e5 e6;have cut:fO.body=.seq (a8 fO.body) (.seq (a8 (cD 0 fO.body)) (.seq (a8 (cD 1 fO.body)) (.seq (a8 (cD 2 fO.body)) (.seq (a8 (cD 3 fO.body)) (.seq (a8 (cD 4 fO.body)) (.seq (a8 (cD 5 fO.body)) (cD 6 fO.body))))))):=rfl;rw[cut];generalize cD 6 fO.body=T;simp only[go_sem,ya,yb,fO,cD,aA,a8,e1,yv,yO,e2,aQ,fx.st,fx.ah,bh,dV,yg,e3,Gk,yu,aX,ye,qu,AE,bP,u1.ah,u2.ah,u2.one,u3.ah,u3.one,e4,CS,CT,fs.st,e5,e6,wk1,wk2];generalize hq:D P L (.loop _ KO) _=q;obtain⟨ex,st,rfl,tm,ct,k,rfl,rfl,q1,q2,q3,q4,t5,t6,t7⟩:=bg hq lp ⟨(B:Int)-C-24,by omega,by omega,g1,by simp only[go_sem,ya,yb,aq]<;>rfl⟩
  refine⟨k,by omega,q3,q4,?_⟩;simp only[go_sem,ya,yb,aq,t5,t6,t7]
end
end VE
end
section
namespace VE
open Go (IntKind)
open Ieee
def ib(b:Nat):Bool:=match single.read b with
 | .number .. =>ydy
 | _=>ydz
def AU:List AV->Option AV
 | [.an .f32 b]=>Gr (.bool (ib b))
 | _=>Gs
def Fl.fin{b M:Nat}{s:Bool}(h:Fl b s M):ib b=ydy:=by
 obtain⟨m,e,h1,_⟩:=h.ex;unfold ib;rw[h1.read]
def ayh{b:Nat}(hb:b<4294967296):(∃s M,Fl b s M)\/ib b=ydz:=by
 rcases axD (f:=single) (b:=b) hb (by decide) with ⟨s,m,e,h⟩ | h
 .exact .inl ⟨s,_,⟨m,e,h,rfl⟩⟩
 .right
  unfold ib
  cases hr:single.read b with
  | number s m e=>exact absurd hr (h s m e)
  | _=>rfl
def Fl.pz{b:Nat}(h:Fl b ydz 0):b=0:=by
 obtain⟨m,e,h1,h2⟩:=h.ex;have hm:m=0:=by
  unfold cO at h2;rcases Nat.mul_eq_zero.1 h2.symm with q | q
  .exact q
  .exact absurd q (uU (xf _))
 subst hm;obtain⟨b1,b2,b3,b4⟩:=h1.b;have he:e= -149:=by omega
 subst he;rw[h1.eq];decide
abbrev dQ(l:List Nat):List AV:=l.map (.an .f32)
end VE
end
section
namespace VE
open Go
open Ieee
def afa{b m:Nat}{s:Bool}{e:Int}(h:single.read b=.number s m e):single.sub b b=Gr 0:=by
 unfold Format.sub;rw[h];show Gr (single.write (.number (if signed s m (e-min e e).toNat+signed (!s) m (e-min e e).toNat=0 then s&& !s else decide (signed s m (e-min e e).toNat+signed (!s) m (e-min e e).toNat<0)) (signed s m (e-min e e).toNat+signed (!s) m (e-min e e).toNat).natAbs (min e e)))=Gr 0
 have h0:signed s m (e-min e e).toNat+signed (!s) m (e-min e e).toNat=0:=by
  unfold signed;cases s<;>simp<;>omega
 rw[h0,yE rfl];have hs:(s&& !s)=ydz:=by cases s<;>rfl
 rw[hs];rfl
def aug{b:Nat}(h:∀s m e,single.read b≠.number s m e):single.sub b b=Gs:=by
 unfold Format.sub
 cases hr:single.read b with
 | number s m e=>exact absurd hr (h s m e)
 | infinity s=>cases s<;>rfl
 | nan s t=>rfl
def auh{x:Nat}(hx:x<8388607)(t:Nat):single.order (t%2*2147483648+2139095040+1+x) 0=Gs:=by
 have hm:(t%2*2147483648+2139095040+1+x)%2147483648=2139095041+x:=by omega
 have hr:∃s n,single.read (t%2*2147483648+2139095040+1+x)=.nan s n:=by
  unfold Format.read;simp only[show single.signWeight=2147483648 from rfl,show single.binade=8388608 from rfl,show single.infRung=2139095040 from rfl];rw[hm,yp (by omega),yp (by omega),yp (by omega)];exact⟨_,_,rfl⟩
 obtain⟨s,n,hr⟩:=hr;unfold Format.order;rw[hr];rfl
def afb(P:xA)(b:Nat)(w:yo):∃r w1,(∀t,(wb .sub t (.float .f32 b) (.float .f32 b)).run P w=.ok (.float .f32 r) w1)/\Calm w w1/\(∀t w',(wb .eql t (.float .f32 r) (.float .f32 0)).run P w'=.ok (.bool (ib b)) w'):=by
 by_cases h:∃s m e,single.read b=.number s m e
 .obtain ⟨s,m,e,h⟩:=h;have h1:FloatKind.f32.format.sub b b=Gr 0:=afa h;refine⟨0,w,fun t=>?_,Calm.refl,fun t w'=>?_⟩
  .simp [wb,Op.floatArith,h1]
  .have:ib b=ydy:=by unfold ib;rw[h]
   rw[this];rfl
 .have h':∀s m e,single.read b≠.number s m e:=fun s m e q=>h ⟨s,m,e,q⟩
  have h1:FloatKind.f32.format.sub b b=Gs:=aug h';obtain⟨t0,ht0⟩:∃t0,t0=w.tape w.drawn (.nanBits .f32 b b):=⟨_,rfl⟩;refine⟨(Question.nanBits .f32 b b).cut t0,w.drew,fun t=>?_,⟨rfl,rfl,rfl,yx _,fun _ _=>rfl⟩,fun t w'=>?_⟩
  .rw [ht0];simp[wb,Op.floatArith,h1,Question.forced]
  .have:ib b=ydz:=by
    unfold ib
    cases hr:single.read b with
    | number s m e=>exact absurd hr (h' s m e)
    | _=>rfl
   rw[this];have hc:=auh (x:=t0/2%8388607) (xE _ (by decide)) t0;have kX:FloatKind.f32.format.order ((Question.nanBits .f32 b b).cut t0) 0=Gs:=hc;simp[wb,Op.floatCmp,kX]
variable {O:bC}
def afc{n:Nat}(gj:∀args w,(callFunc (O.ae n) args).run O.P w=.ok (.enter (O.ae n) args) w)(hc:∀(b:Nat) (w:yo),wG O.P (O.ae n) #[.float .f32 b] w fun e w'=>e=.returned (.bool (ib b))/\Calm w w'):∀aw r,AU aw=Gr r->eJ O n aw r:=by
 intro aw r h;unfold AU at h
 split at h
 .rename_i b;simp only[yc] at h;subst h;refine pT adp gj ?_;intro w S args hg ef;obtain⟨u,rfl,h1⟩:=Fb ef;simp only[af] at h1;subst h1;refine (hc b w).mono ?_;rintro e w' ⟨rfl,h2⟩;exact⟨_,rfl,h2,fun S=>by simp only[af]⟩
 .cases h
end VE
end
section
namespace Go.Proofs
open Go.RowKit
def Tryz.aDf(b:Nat)(w:yo):wG Tryz.prog 142 #[.float .f32 b] w fun e w'=>e=.returned (.bool (VE.ib b))/\VE.Calm w w':=by
 obtain⟨r,w1,h1,h2,h3⟩:=VE.afb Tryz.prog b w
 go_enter Tryz.func142,Tryz.ntmps142
 go_wp2_with (simp only[h1,h3])
 go_ret
 exact⟨rfl,h2⟩
def Tryz.aDg(b:Nat)(w:yo):wG Tryz.prog 130 #[.float .f32 b] w fun e w'=>e=.returned (.bool (VE.ib b))/\VE.Calm w w':=by
 obtain⟨r,w1,h1,h2,h3⟩:=VE.afb Tryz.prog b w
 go_enter Tryz.func130,Tryz.ntmps130
 go_wp2_with (simp only[h1,h3])
 go_ret
 exact⟨rfl,h2⟩
end Go.Proofs
end
section
namespace VE
open Go
section
variable {H:Type}{enc:yF×yj->H}{P:xA}{w:yo}{base:Nat}{sp:Nat->Bool}{held:Bool}
def mapM_mem{α β:Type}{f:α->Option β}:∀{l:List α} {r:List β},l.mapM f=Gr r->∀y,y∈r->∃x,f x=Gr y
 | [],r,h,y,hy=>by simp only[List.mapM_nil,vn,yc] at h;subst h;cases hy
 | x::l,r,h,y,hy=>by
  rw[ta] at h
  cases h1:f x with
  | none=>simp[h1] at h
  | some z=>
   cases h2:l.mapM f with
   | none=>simp[h1,h2] at h
   | some zs=>
    simp only[h1,h2,wT,ug,vn,yc] at h;subst h;rcases xP.1 hy with rfl | hy
    .grind
    .exact mapM_mem h2 y hy
def Rd(enc:yF×yj->H)(P:xA)(w:yo)(base:Nat)(sp:Nat->Bool)(held:Bool)(t:yF)(d:xX H):Prop:=∃bq cs ps,DataW.trod enc P w base sp held bq t cs=Gr (d,ps)
def ayi{t:yF}{k:xh}{d:xX H}{n:Nat}(ht:P.underlying t=Gr (.int k))(h:Rd enc P w base sp held t d):∃z,cV P (n+1) t d=[.int k z]/\(Lit.int k z).wf=ydy:=by
 obtain⟨bq,cs,ps,h⟩:=h
 cases bq with
 | zero=>simp[DataW.trod] at h
 | succ bq=>
  unfold DataW.trod at h
  split at h
  all_goals first
   | (rename_i hu;rw[ht] at hu;cases hu;done)
   | skip
  .rename_i k1 k2 z hu;rw[ht] at hu;injection hu with hu
   injection hu with hu
   subst hu
   split at h
   .rename_i hk;obtain⟨rfl,rfl⟩:=h;exact⟨z,by simp only[cV,ht],hk.2⟩
   .cases h
  grind
def arI{t e:yF}{d:xX H}{n:Nat}(ht:P.underlying t=Gr (.slice e))(h:Rd enc P w base sp held t d):
  cV P (n+1) t d=[.aj]\/∃(x:Bool) (lB:List (xX H)),cV P (n+1) t d=[.au x lB.length (lB.flatMap fun y=>cV P n e y)]/\∀y,y∈lB->Rd enc P w base sp held e y:=by
 obtain⟨bq,cs,ps,h⟩:=h
 cases bq with
 | zero=>simp[DataW.trod] at h
 | succ bq=>
  unfold DataW.trod at h
  split at h
  all_goals first
   | (rename_i hu;rw[ht] at hu;cases hu;done)
   | skip
  .simp only [yc,yr] at h;obtain⟨rfl,rfl⟩:=h;exact .inl (by simp only[cV,ht])
  .rename_i e' a len cap hu;rw[ht] at hu;injection hu with hu
   injection hu with hu
   subst hu;simp only at h
   split at h
   case isFalse=>cases h
   cases h1:(wR len).mapM fun i=>(w.cells? base (a.add (i*P.cellsOf e)) (P.cellsOf e)).bind (DataW.trod enc P w base sp held bq e) with
   | none=>rw[h1] at h;simp at h
   | some lB=>
    rw[h1] at h;obtain⟨rest,_,h⟩:=ve.1 h;obtain⟨rfl,rfl⟩:=h;refine .inr ⟨(rest.map (·.1)).isEmpty,lB.map (·.1),by simp only[cV,ht,yU],?_⟩;intro y hy;obtain⟨p,hp,rfl⟩:=wA.1 hy;obtain⟨i,hi⟩:=mapM_mem h1 p hp;obtain⟨dH,_,dY⟩:=Option.bind_eq_some_iff.1 hi;exact⟨bq,dH,p.2,dY⟩
  grind
def apx{t:yF}{fs:Array uj}{d:xX H}{n:Nat}(ht:P.underlying t=Gr (.struct fs))(h:Rd enc P w base sp held t d):
  ∃ds:List (xX H),ds.length=fs.toList.length/\cV P (n+1) t d=(fs.toList.zip ds).flatMap (fun x=>cV P n x.1.type x.2)/\∀i (h1:i<fs.toList.length) (h2:i<ds.length),Rd enc P w base sp held fs.toList[i].type ds[i]:=by
 obtain⟨bq,cs,ps,h⟩:=h
 cases bq with
 | zero=>simp[DataW.trod] at h
 | succ bq=>
  unfold DataW.trod at h
  split at h
  all_goals first
   | (rename_i hu;rw[ht] at hu;cases hu;done)
   | (cases h;done)
   | skip
  rename_i cs x1 Np fs' hu;rw[ht] at hu;injection hu with hu
  injection hu with hu
  subst hu
  split at h
  case isFalse=>cases h
  obtain⟨xs,h1,h⟩:=ve.1 h;obtain⟨rfl,rfl⟩:=h;refine⟨xs.map (·.1),by simp[OI h1],by simp only[cV,ht],?_⟩;have key:∀{r:List uj} {xs:List (xX H×List wZ)},r.mapM (fun f=>DataW.trod enc P w base sp held bq f.type ((cs.drop f.offset).take (P.cellsOf f.type)))=Gr xs->
    ∀i (h1:i<r.length) (h2:i<(xs.map (·.1)).length),Rd enc P w base sp held r[i].type (xs.map (·.1))[i]:=by
   intro r
   induction r with
   | nil=>intro xs h i h1;exact absurd h1 (ybp i)
   | cons f r ih=>
    intro xs h i h1 h2;rw[ta] at h
    cases g1:DataW.trod enc P w base sp held bq f.type ((cs.drop f.offset).take (P.cellsOf f.type)) with
    | none=>simp[g1] at h
    | some x=>
     cases g2:r.mapM (fun f=>DataW.trod enc P w base sp held bq f.type ((cs.drop f.offset).take (P.cellsOf f.type))) with
     | none=>simp[g1,g2] at h
     | some ys=>
      simp only[g1,g2,wT,ug,vn,yc] at h;subst h
      cases i with
      | zero=>exact⟨bq,_,x.2,g1⟩
      | succ i=>exact ih g2 i (by simpa using h1) (by simpa using h2)
  exact key h1
def arJ{t e:yF}{k:Nat}{d:xX H}{n:Nat}(ht:P.underlying t=Gr (.array k e))(h:Rd enc P w base sp held t d):
  ∃ds:List (xX H),ds.length=k/\cV P (n+1) t d=ds.flatMap (fun x=>cV P n e x)/\∀y,y∈ds->Rd enc P w base sp held e y:=by
 obtain⟨bq,cs,ps,h⟩:=h
 cases bq with
 | zero=>simp[DataW.trod] at h
 | succ bq=>
  unfold DataW.trod at h
  split at h
  all_goals first
   | (rename_i hu;rw[ht] at hu;cases hu;done)
   | (cases h;done)
   | skip
  rename_i cs x1 Np k' e' hu;rw[ht] at hu;injection hu with hu
  injection hu with zZ Cg
  subst zZ;subst Cg
  split at h
  case isFalse=>cases h
  obtain⟨xs,h1,h⟩:=ve.1 h;obtain⟨rfl,rfl⟩:=h;refine⟨xs.map (·.1),by simp[OI h1],by simp only[cV,ht],fun y hy=>?_⟩;obtain⟨p,hp,rfl⟩:=wA.1 hy;obtain⟨i,hi⟩:=mapM_mem h1 p hp;exact⟨bq,_,p.2,hi⟩
end
end VE
end
section
namespace VE
open Go
inductive Ty
 | int (k:xh)
 | an (k:xY)
 | bool
 | str
 | sl (e:Ty)
 | nil
 | cat (a b:Ty)
 | ar (n:Nat) (e:Ty)
def kI:Ty->List AV->Prop
 | .int k,l=>∃z,l=[.int k z]/\(Lit.int k z).wf=ydy
 | .an k,l=>∃b,l=[.an k b]/\(Lit.float k b).wf=ydy
 | .bool,l=>∃b,l=[.bool b]
 | .str,l=>∃s:List Nat,l=[.str s]/\s.length<9223372036854775808/\∀c,c∈s->c<256
 | .sl e,l=>l=[.aj]\/∃(x:Bool) (ps:List (List AV)),l=[.au x ps.length ps.flatten]/\∀p,p∈ps->kI e p
 | .nil,l=>l=[]
 | .cat a b,l=>∃x y,l=x++y/\kI a x/\kI b y
 | .ar n e,l=>∃ps:List (List AV),ps.length=n/\l=ps.flatten/\∀p,p∈ps->kI e p
def oZ:List (Option Ty)->Option Ty
 | []=>Gr .nil
 | some a::r=>match oZ r with
  | some b=>Gr (.cat a b)
  | none=>Gs
 | none::_=>Gs
def iw(P:xA):Nat->yF->Option Ty
 | 0,_=>Gs
 | n+1,t=>
  match P.underlying t with
  | some .bool=>Gr .bool
  | some (.int k)=>Gr (.int k)
  | some (.float k)=>Gr (.an k)
  | some .string=>Gr .str
  | some (.slice e)=>(iw P n e).map .sl
  | some (.struct fs)=>oZ (fs.toList.map fun f=>iw P n f.type)
  | some (.array k e)=>(iw P n e).map (.ar k)
  | _=>Gs
section
variable {H:Type}{enc:yF×yj->H}{P:xA}{w:yo}{base:Nat}{sp:Nat->Bool}{held:Bool}
def ayj{t:yF}{k:xY}{d:xX H}{n:Nat}(ht:P.underlying t=Gr (.float k))(h:Rd enc P w base sp held t d):∃b,cV P (n+1) t d=[.an k b]/\(Lit.float k b).wf=ydy:=by
 obtain⟨bq,cs,ps,h⟩:=h
 cases bq with
 | zero=>simp[DataW.trod] at h
 | succ bq=>
  unfold DataW.trod at h
  split at h
  all_goals first
   | (rename_i hu;rw[ht] at hu;cases hu;done)
   | skip
  .rename_i k1 k2 z hu;rw[ht] at hu;injection hu with hu
   injection hu with hu
   subst hu
   split at h
   .rename_i hw;obtain⟨rfl,rfl⟩:=h;exact⟨z,by simp only[cV,ht],hw.2⟩
   .cases h
  grind
def aui{t:yF}{d:xX H}{n:Nat}(ht:P.underlying t=Gr .bool)(h:Rd enc P w base sp held t d):∃b,cV P (n+1) t d=[.bool b]:=by
 obtain⟨bq,cs,ps,h⟩:=h
 cases bq with
 | zero=>simp[DataW.trod] at h
 | succ bq=>
  unfold DataW.trod at h
  split at h
  all_goals first
   | (rename_i hu;rw[ht] at hu;cases hu;done)
   | skip
  .simp only [yc,yr] at h;obtain⟨rfl,rfl⟩:=h;rename_i b _;exact⟨b,by simp only[cV,ht]⟩
  grind
def ayk{t:yF}{d:xX H}{n:Nat}(ht:P.underlying t=Gr .string)(h:Rd enc P w base sp held t d):
  ∃s:List Nat,cV P (n+1) t d=[.str s]/\s.length<9223372036854775808/\∀c,c∈s->c<256:=by
 obtain⟨bq,cs,ps,h⟩:=h
 cases bq with
 | zero=>simp[DataW.trod] at h
 | succ bq=>
  unfold DataW.trod at h
  split at h
  all_goals first
   | (rename_i hu;rw[ht] at hu;cases hu;done)
   | skip
  .rename_i s hu
   split at h
   .rename_i hs;obtain⟨rfl,rfl⟩:=h;refine⟨_,by simp only[cV,ht];rfl,?_,fun c hc=>?_⟩
    .simp only [yU,Array.length_toList];have h1:s.size<=9223372036854775807:=hs;have h2:s.data.size=s.size:=rfl;omega
    .obtain ⟨b,_,rfl⟩:=wA.1 hc;exact b.toNat_lt
   .cases h
  grind
def ab4{n:Nat}(ih:∀{t:yF} {T:Ty} {d:xX H},iw P n t=Gr T->Rd enc P w base sp held t d->kI T (cV P n t d)):
  ∀(fs:List uj) (ds:List (xX H)) (T:Ty),oZ (fs.map fun f=>iw P n f.type)=Gr T->ds.length=fs.length->(∀i (h1:i<fs.length) (h2:i<ds.length),Rd enc P w base sp held fs[i].type ds[i])->
   kI T ((fs.zip ds).flatMap fun x=>cV P n x.1.type x.2)
 | [],ds,T,hT,_,_=>by
  simp only[wJ,oZ,yc] at hT;subst hT;simp[kI]
 | f::fs,[],T,_,hl,_=>by simp at hl
 | f::fs,d::ds,T,hT,hl,hr=>by
  simp only[yV] at hT
  cases h1:iw P n f.type with
  | none=>simp[h1,oZ] at hT
  | some a=>
   cases h2:oZ (fs.map fun f=>iw P n f.type) with
   | none=>simp[h1,h2,oZ] at hT
   | some b=>
    simp only[h1,h2,oZ,yc] at hT;subst hT;exact⟨_,_,rfl,ih h1 (hr 0 (by simp) (by simp)),ab4 ih fs ds b h2 (by simpa using hl) (fun i h1 h2=>hr (i+1) (by simpa using h1) (by simpa using h2))⟩
def afZ:∀(n:Nat) {t:yF} {T:Ty} {d:xX H},iw P n t=Gr T->Rd enc P w base sp held t d->kI T (cV P n t d)
 | 0,t,T,d,hT,_=>by simp[iw] at hT
 | n+1,t,T,d,hT,hr=>by
  have ih:=@afZ n
  cases hu:P.underlying t with
  | none=>simp[iw,hu] at hT
  | some u=>
   cases u with
   | slice e=>
    simp only[iw,hu] at hT;obtain⟨E,hE,rfl⟩:=ve.1 hT
    rcases arI (n:=n) hu hr with h | ⟨x,lB,h,hm⟩
    .exact .inl h
    .refine .inr ⟨x,lB.map (cV P n e),by rw[h,yU,ybW],fun p hp=>?_⟩
     grind
   | struct fs=>
    simp only[iw,hu] at hT;obtain⟨ds,e1,e2,e3⟩:=apx (n:=n) hu hr;rw[e2];exact ab4 ih fs.toList ds T hT e1 e3
   | array k e=>
    simp only[iw,hu] at hT;obtain⟨E,hE,rfl⟩:=ve.1 hT;obtain⟨ds,e1,e2,e3⟩:=arJ (n:=n) hu hr;refine⟨ds.map (cV P n e),by simp[e1],by rw[e2,ybW],fun p hp=>?_⟩
    grind
   | int k=>
    simp only[iw,hu,yc] at hT;subst hT;exact ayi hu hr
   | float k=>
    simp only[iw,hu,yc] at hT;subst hT;exact ayj hu hr
   | bool=>
    simp only[iw,hu,yc] at hT;subst hT;exact aui hu hr
   | string=>
    simp only[iw,hu,yc] at hT;subst hT;exact ayk hu hr
   | _=>simp[iw,hu] at hT
def H5:Ty->List AV->AV
 | .nil,l | .cat _ _,l | .ar _ _,l=>.agg l
 | _,l=>l.headD .undef
def apy:∀{l:List (Option Ty)} {T:Ty},oZ l=Gr T->∀x,H5 T x=.agg x
 | [],T,h=>by simp only[oZ,yc] at h;subst h;exact fun _=>rfl
 | none::r,T,h=>by simp[oZ] at h
 | some a::r,T,h=>by
  cases h1:oZ r with
  | none=>simp[oZ,h1] at h
  | some b=>
   simp only[oZ,h1,yc] at h;subst h;exact fun _=>rfl
def aAu{n:Nat}{t:yF}{T:Ty}{d:xX H}(hT:iw P n t=Gr T):mZ P n t d=H5 T (cV P n t d):=by
 cases n with
 | zero=>simp[iw] at hT
 | succ n=>
  cases hu:P.underlying t with
  | none=>simp[iw,hu] at hT
  | some u=>
   cases u with
   | slice e=>
    simp only[iw,hu] at hT;obtain⟨E,hE,rfl⟩:=ve.1 hT;simp only[mZ,hu,H5]
   | struct fs=>
    simp only[iw,hu] at hT;rw[apy hT];simp only[mZ,hu]
   | array k e=>
    simp only[iw,hu] at hT;obtain⟨E,hE,rfl⟩:=ve.1 hT;simp only[mZ,hu,H5]
   | _=>
    simp only[iw,hu,yc,reduceCtorEq] at hT<;>
    (subst hT
     simp only[mZ,hu,H5])
def LO:List Ty->List (List AV)->List AV
 | T::Ts,l::ls=>H5 T l::LO Ts ls
 | _,_=>[]
def aec{n:Nat}:∀{ts:List yF} {Ts:List Ty} {vs:List yj} {ds:List (xX H)} {ps:List wZ},(ts.map (iw P n))=Ts.map Gr->DataW.TrodAll enc P w base sp held ts vs ds ps->
  ∃ls,c7 kI Ts ls/\BD P n ts ds=LO Ts ls/\ds.length=ts.length
 | [],[],[],[],ps,_,_=>⟨[],trivial,rfl,rfl⟩
 | t::ts,T::Ts,v::vs,d::ds,ps,hT,⟨p,q,⟨bq,h1⟩,h2,_⟩=>by
  simp only[yV,uG] at hT;have⟨ls,k1,k2,k3⟩:=aec hT.2 h2;exact⟨cV P n t d::ls,⟨afZ n hT.1 ⟨bq,_,_,h1⟩,k1⟩,by simp only[BD,LO,k2,aAu hT.1],by simp[k3]⟩
 | [],_::_,_,_,_,h,_=>by simp at h
 | _::_,[],_,_,_,h,_=>by simp at h
 | [],[],_::_,_,_,_,h=>by simp[DataW.TrodAll] at h
 | [],[],[],_::_,_,_,h=>by simp[DataW.TrodAll] at h
 | _::_,_,[],_,_,_,h=>by simp[DataW.TrodAll] at h
 | _::_,_,_::_,[],_,_,h=>by simp[DataW.TrodAll] at h
def ayl{α β:Type}{p:α->β->Prop}{a:α}:∀{l:List β},c7 p [a] l->∃x,l=[x]/\p a x
 | [x],h=>⟨x,rfl,h.1⟩
 | [],h=>h.elim
 | _::_::_,h=>h.2.elim
def aym{α β:Type}{p:α->β->Prop}{a b:α}:∀{l:List β},c7 p [a,b] l->∃x y,l=[x,y]/\p a x/\p b y
 | x::l,h=>let ⟨y,h1,h2⟩:=ayl h.2;⟨x,y,by rw[h1],h.1,h2⟩
 | [],h=>h.elim
def ayn{α β:Type}{p:α->β->Prop}{a b c:α}:∀{l:List β},c7 p [a,b,c] l->∃x y z,l=[x,y,z]/\p a x/\p b y/\p c z
 | x::l,h=>let ⟨y,z,h1,h2,h3⟩:=aym h.2;⟨x,y,z,by rw[h1],h.1,h2,h3⟩
 | [],h=>h.elim
end
end VE
end
section
namespace VE
open Go (IntKind)
def kJ{lv:List Nat}{tm tm':Env}{hp:Hp}{c c' b:Nat}(hk:bD tm lv=bD tm' lv):bB lv ⟨tm,hp,c,b⟩=bB lv ⟨tm',hp,c',b⟩:=by
 simp only[bB,hk]
def eC(C R S:Nat):AV:=.bA [aa C,aa R,aa S]
def Sc(l C R S k:Nat):Env:=[(0,.fn (.y l) [] []),(1,eC C R S),(8,aa ((C*R:Nat):Int)),(9,aa k)]
def Ln(cs:List AV):C8 0 (.bA cs)=Gr (.bA cs):=rfl
def af0(a:AV)(cs:List AV):C8 1 (.bA (a::cs))=Gr (.bA cs):=by
 show (bif yJ 1 (cs.length+1) then Gr (AV.bA cs) else Gs)=_
 rw[yz (by omega),yy]
def P4(a b:AV)(cs:List AV):C8 2 (.bA (a::b::cs))=Gr (.bA cs):=by
 show (bif yJ 2 (cs.length+1+1) then Gr (AV.bA cs) else Gs)=_
 rw[yz (by omega),yy]
def YI{P:aF}{L:Lib}{f:cu}{hp:Hp}{ct l:Nat}{xs:List AV}:fb P L f hp ct .heap (.fn (.y l) [] []) xs=jT f hp ct l xs:=rfl
end VE
end
section
namespace VE
open Go (IntKind)
section
variable {lv ps:List Nat}
def ab5{f:Nat->Option Nat}:∀{E:Env},qt E=ydy->fM f E=E
 | [],_=>rfl
 | (i,v)::r,h=>by
  simp only[qt,yf] at h;simp only[fM,Kd _ h.1]
  rw[ab5 (E:=r) h.2]
def QD(B l:Nat)(hp:Hp):List Nat:=reach hp B 100000 (l::cG B hp) []
def zN(B l:Nat)(hp:Hp):Hp×Nat:=(ep hp (iK B (QD B l hp)) (QD B l hp) B (gM B (iK B (QD B l hp)) hp),B+(QD B l hp).length)
def acZ{tm rest:Env}{hp:Hp}{ct B l:Nat}(hk:bD tm lv=(0,.fn (.y l) [] [])::rest)(hr:qt rest=ydy)(hl:l<B):
  bB lv ⟨tm,hp,ct,B⟩=⟨(0,.fn (.y l) [] [])::rest,(zN B l hp).1,(zN B l hp).2,B⟩:=by
 have e:dN ((0,AV.fn (.y l) [] [])::rest)=[l]:=by
  rw[abT,TU hr];rfl
 have e2:∀f:Nat->Option Nat,f l=Gr l->fM f ((0,AV.fn (.y l) [] [])::rest)=(0,.fn (.y l) [] [])::rest:=fun f hf=>by
  simp only[fM,br,hf,dD];rw[ab5 hr]
 simp only[bB,hk,e,xe,xt];rw[e2 _ (by simp only[iK,oU hl,yy])];rfl
def Ep{tm rest:Env}{hp H:Hp}{ct B l c:Nat}(hk:bD tm lv=(0,.fn (.y l) [] [])::rest)(hr:qt rest=ydy)(hl:l<B)(h:zN B l hp=(H,c)):
  bB lv ⟨tm,hp,ct,B⟩=⟨(0,.fn (.y l) [] [])::rest,H,c,B⟩:=by
 rw[acZ hk hr hl,h]
def mT(a b:Nat):AV:=.bA [aa a,aa b]
def Lo(l C R S a b k:Nat):Env:=[(0,.fn (.y l) [] []),(1,eC C R S),(2,mT a b),(7,aa S),(8,aa k)]
def Wi(l C R S a b k i:Nat):Env:=[(0,.fn (.y l) [] []),(1,eC C R S),(2,mT a b),(4,aa k),(7,aa S),(8,aa k),(12,aa S),(13,aa i)]
def Ti(S a b k i:Nat):List AV:=[.agg [aa i,aa k],.agg [aa ((a*S+i:Nat):Int),aa ((b*S+k:Nat):Int)]]
structure Rnd(Inv:Nat->Hp->Nat->Prop)(B l:Nat):Prop where
 y:∀{j H c},Inv j H c->zN B l H=(H,c)
 z:∀{j H c},Inv j H c->∀tm ct,bB [] ⟨tm,H,ct,B⟩=⟨[],H,c,B⟩
 l:∀{j H c},Inv j H c->∃tm p a b,ak H l=Gr (.lp tm p a b 0 .none)
section
variable {P:aF}{L:Lib}
def aAv(Sd:Has P L 719 Mo){f:X}{as_ body:VC}{s:St}{C R S a b:Nat}(hS:S<=8)(ha:a<=8)(hb:b<=8)(hf:aB s.tm f=.fn (.f 719) [] [eC C R S,mT a b]){Inv:Nat->Hp->Nat->Prop}(hI:Rnd Inv (s.ct+1) s.ct)(h0:∃H c,zN (s.ct+1) s.ct ((s.ct,.lp s.tm ps as_ body 0 .none)::s.hp)=(H,c)/\Inv 0 H c)(hr:∀k i H c,k<S->i<S->Inv (k*S+i) H c->∃hp aO H' c',jT (D P L) H c s.ct (Ti S a b k i)=Gr (.bool ydy,hp,aO)/\zN (s.ct+1) s.ct hp=(H',c')/\Inv (k*S+i+1) H' c'):
  ∃H c,Inv (S*S) H c/\D P L (.rf f ps as_ body) s=Gr (.normal,⟨s.tm,cN H s.ct,c,s.base⟩):=by
 have YJ:∀k,k<S->_:=fun k hk=>fK P L [0,1,2,4,7,8,12,13] Lf
  (fun d st=>∃i H c,i+d=S/\Inv (k*S+i) H c/\st=⟨Wi s.ct C R S a b k i,H,c,s.ct+1⟩)
  (fun ex st=>ex=.exit 2/\∃tm ct H c,Inv (k*S+S) H c/\st=⟨tm,H,ct,s.ct+1⟩/\bD tm [0,1,2,7,8]=Lo s.ct C R S a b k) (by
  rintro d st ⟨i,H,c,hid,dl,rfl⟩;by_cases hi:i<S
  .left
   obtain⟨hp,aO,H',c',e,Cs,FP⟩:=hr k i H c hk hi dl;have b1:a*S<=64:=yZ ha hS;have b2:b*S<=64:=yZ hb hS;have m1:(a:Int)*(S:Int)=((a*S:Nat):Int):=by rw[xx]
   have m2:(b:Int)*(S:Int)=((b*S:Nat):Int):=by rw[xx]
   have a1:((a*S:Nat):Int)+(i:Int)=((a*S+i:Nat):Int):=by rw[yak]
   have a2:((b*S:Nat):Int)+(k:Int)=((b*S+k:Nat):Int):=by rw[yak]
   unfold Ti at e
   simp only[go_sem,ya,yb,yq,Lf,Wi,eC,mT,Ln,af0,P4,show (i:Int)<S by omega,m1,m2,wrap64 (n:=((a*S:Nat):Int)) (by omega) (by omega),wrap64 (n:=((b*S:Nat):Int)) (by omega) (by omega),a1,a2,wrap64 (n:=((a*S+i:Nat):Int)) (by omega) (by omega),wrap64 (n:=((b*S+k:Nat):Int)) (by omega) (by omega),YI,e];refine⟨_,d-1,rfl,by omega,i+1,H',c',by omega,FP,?_⟩;rw[wrap64 (by omega) (by omega)];exact Ep (by simp only[go_sem,ya]<;>rfl) rfl (by omega) Cs
  .right
   have his:i=S:=by omega
   subst his;simp only[go_sem,ya,Lf,Wi,eC,mT,show ¬(i:Int)<i by omega]
   exact⟨_,_,rfl,by simp,rfl,_,_,H,c,dl,rfl,by simp only[go_sem,ya,Lo,eC,mT]<;>rfl⟩)
 have aDh:=fK P L [0,1,2,7,8] Lg
  (fun d st=>∃k H c,k+d=S/\Inv (k*S) H c/\st=⟨Lo s.ct C R S a b k,H,c,s.ct+1⟩)
  (fun ex st=>ex=.exit 0/\∃tm ct H c,Inv (S*S) H c/\st=⟨tm,H,ct,s.ct+1⟩) (by
  rintro d st ⟨k,H,c,hkd,dl,rfl⟩;by_cases hk:k<S
  .left
   have hm:(k+1)*S=k*S+S:=by rw[we,yah]
   simp only[go_sem,ya,Lg,Lo,eC,mT,P4,show (k:Int)<S by omega];generalize hq:D P L (.loop _ Lf) _=q;obtain⟨ex,st,rfl,rfl,tm,ct,H',c',FP,rfl,cY⟩:=bg hq (YJ k hk S) ⟨0,H,c,by omega,dl,Ep (by simp only[go_sem,ya]<;>rfl) rfl (by omega) (hI.y dl)⟩
   have hcp:=fun ct=>Ep (lv:=[0,1,2,7,8]) (ct:=ct) cY rfl (Nat.lt_succ_self _) (hI.y FP)
   simp only[go_sem,ya,hcp];refine⟨_,d-1,rfl,by omega,k+1,H',c',by omega,by rw[hm];exact FP,?_⟩
   rw[wrap64 (by omega) (by omega)];exact Ep (by simp only[go_sem,ya,eC,mT]<;>rfl) rfl (by omega) (hI.y FP)
  .right
   have pC:k=S:=by omega
   subst pC;simp only[go_sem,ya,Lg,Lo,eC,mT,show ¬(k:Int)<k by omega]
   exact⟨_,_,rfl,by simp,rfl,_,_,H,c,dl,rfl⟩)
 obtain⟨H0,c0,NQ,h02⟩:=h0;have hb:∃tm H c,Inv (S*S) H c/\D P L Mo.body ⟨fa 0 [.fn (.y s.ct) [] [],eC C R S,mT a b],(s.ct,.lp s.tm ps as_ body 0 .none)::s.hp,s.ct+1,s.ct+1⟩=Gr (.normal,⟨tm,H,c,s.ct+1⟩):=by
  simp only[go_sem,ya,Mo,eC,mT,P4];generalize hq:D P L (.loop _ Lg) _=q;obtain⟨ex,st,rfl,rfl,tm,ct,H,c,dl,rfl⟩:=bg hq (aDh S) ⟨0,H0,c0,by omega,by rw[wz];exact h02,Ep (by simp only[go_sem,ya,eC,mT]<;>rfl) rfl (by omega) NQ⟩
  refine⟨[],H,c,dl,?_⟩;simp only[go_sem];exact congrArg (fun x=>Gr (Ex.normal,x)) (hI.z dl _ _)
 obtain⟨tm,H,c,dl,hD⟩:=hb;obtain⟨jk,p,a',b',hl⟩:=hI.l dl;exact⟨H,c,dl,ahh hf Sd.heap (Kt Sd hD (.inl rfl) rfl) hl (by decide)⟩
def ayo(H6:Has P L 718 HN){f:X}{as_ body:VC}{s:St}{C R S:Nat}(hC:C<=8)(hR:R<=8)(hf:aB s.tm f=.fn (.f 718) [] [eC C R S]){Inv:Nat->Hp->Nat->Prop}{Bad:Hp->Nat->Prop}(hI:Rnd Inv (s.ct+1) s.ct)(h0:∃H c,zN (s.ct+1) s.ct ((s.ct,.lp s.tm ps as_ body 0 .none)::s.hp)=(H,c)/\Inv 0 H c)(hr:∀k H c,k<C*R->Inv k H c->(∃hp aO H' c',jT (D P L) H c s.ct [aa k,.agg [aa ((k%C:Nat):Int),aa ((k/C:Nat):Int)]]=Gr (.bool ydy,hp,aO)/\zN (s.ct+1) s.ct hp=(H',c')/\Inv (k+1) H' c')\/
   ∃hp aO tm p a b,jT (D P L) H c s.ct [aa k,.agg [aa ((k%C:Nat):Int),aa ((k/C:Nat):Int)]]=Gr (.bool ydz,hp,aO)/\ak hp s.ct=Gr (.lp tm p a b 2 .ret)/\Bad hp aO):
  (∃H c,Inv (C*R) H c/\D P L (.rf f ps as_ body) s=Gr (.normal,⟨s.tm,cN H s.ct,c,s.base⟩))\/∃hp aO,Bad hp aO/\D P L (.rf f ps as_ body) s=Gr (.ret,⟨s.tm,cN hp s.ct,aO,s.base⟩):=by
 have JD:C*R<=64:=yZ hC hR;have key:=fK P L [0,1,8,9] G8
  (fun d st=>∃k H c,k+d=C*R/\Inv k H c/\st=⟨Sc s.ct C R S k,H,c,s.ct+1⟩)
  (fun ex st=>(ex=.exit 0/\∃tm ct H c,Inv (C*R) H c/\st=⟨tm,H,ct,s.ct+1⟩)\/(ex=.ret/\∃tm hp aO tm' p a b,st=⟨tm,hp,aO,s.ct+1⟩/\ak hp s.ct=Gr (.lp tm' p a b 2 .ret)/\Bad hp aO)) (by
  rintro d st ⟨k,H,c,hkd,dl,rfl⟩;by_cases hk:k<C*R
  .have kw:0<C:=vY (fun h=>by rw[h,wz] at hk;omega);have h1:(k:Int).tmod (C:Int)=((k%C:Nat):Int):=(yaN k C).symm;have h2:(k:Int).tdiv (C:Int)=((k/C:Nat):Int):=(yaO k C).symm;have h3:k%C<C:=xE _ kw;have h4:k/C<=k:=Nat.div_le_self _ _;have hr:=hr k H c hk dl;generalize ha:k%C=a' at*
   generalize bE:k/C=b' at*
   have nG:(C:Int)≠0:=by omega
   rcases hr with ⟨hp,aO,H',c',e,Cs,FP⟩ | ⟨hp,aO,tm',p,a,b,e,hg,hB⟩
   .left
    simp only[go_sem,ya,yb,yq,G8,Sc,eC,Ln,show (k:Int)<((C*R:Nat):Int) by omega,eU _ _ _ nG,eO _ _ _ nG,h1,h2,wrap64 (n:=(b':Int)) (by omega) (by omega),YI,e];refine⟨_,d-1,rfl,by omega,k+1,H',c',by omega,FP,?_⟩;rw[wrap64 (by omega) (by omega)];exact Ep (by simp only[go_sem,ya]<;>rfl) rfl (by omega) Cs
   .right
    simp only[go_sem,ya,yb,yq,G8,Sc,eC,Ln,show (k:Int)<((C*R:Nat):Int) by omega,eU _ _ _ nG,eO _ _ _ nG,h1,h2,wrap64 (n:=(b':Int)) (by omega) (by omega),YI,e];exact⟨_,_,rfl,by simp,.inr ⟨rfl,_,hp,aO,tm',p,a,b,rfl,hg,hB⟩⟩
  .right
   have sJ:k=C*R:=by omega
   subst sJ;simp only[go_sem,ya,G8,Sc,eC,show ¬((C*R:Nat):Int)<((C*R:Nat):Int) by omega]
   exact⟨_,_,rfl,by simp,.inl ⟨rfl,_,_,H,c,dl,rfl⟩⟩)
 obtain⟨H0,c0,NQ,h02⟩:=h0;have hb:∃ex st,D P L HN.body ⟨fa 0 [.fn (.y s.ct) [] [],eC C R S],(s.ct,.lp s.tm ps as_ body 0 .none)::s.hp,s.ct+1,s.ct+1⟩=Gr (ex,st)/\((ex=.normal/\∃tm H c,Inv (C*R) H c/\st=⟨tm,H,c,s.ct+1⟩)\/(ex=.ret/\∃tm hp aO tm' p a b,st=⟨tm,hp,aO,s.ct+1⟩/\ak hp s.ct=Gr (.lp tm' p a b 2 .ret)/\Bad hp aO)):=by
  have hcr:(C:Int)*(R:Int)=((C*R:Nat):Int):=by rw[xx]
  simp only[go_sem,ya,HN,eC,Ln,af0,hcr,wrap64 (n:=((C*R:Nat):Int)) (by omega) (by omega)];generalize hq:D P L (.loop _ G8) _=q;obtain⟨ex,st,rfl,hh⟩:=bg hq (key (C*R)) ⟨0,H0,c0,by omega,h02,Ep (by simp only[go_sem,ya,eC]<;>rfl) rfl (by omega) NQ⟩
  rcases hh with ⟨rfl,tm,ct,H,c,dl,rfl⟩ | ⟨rfl,hh⟩
  .refine ⟨.normal,⟨[],H,c,s.ct+1⟩,?_,.inl ⟨rfl,_,H,c,dl,rfl⟩⟩;simp only[go_sem];exact congrArg (fun x=>Gr (Ex.normal,x)) (hI.z dl _ _)
  .exact ⟨_,_,rfl,.inr ⟨rfl,hh⟩⟩
 obtain⟨ex,st,hD,hh⟩:=hb;have zI:∀s':St,jD s' HN.c9=Gr (.av []):=fun _=>rfl
 rcases hh with ⟨rfl,tm,H,c,dl,rfl⟩ | ⟨rfl,tm,hp,aO,tm',p,a,b,rfl,hg,hB⟩
 .left
  obtain⟨jk,p,a,b,hl⟩:=hI.l dl;exact⟨H,c,dl,ahh hf H6.heap (Kt H6 hD (.inl rfl) (zI _)) hl (by decide)⟩
 .right
  refine⟨hp,aO,hB,?_⟩;have h3:=Kt H6 hD (.inr rfl) (zI _);rw[ma];simp only[bF,hf,H6.heap,xt,h3,hg,gW (show (2:Nat)≠1 by decide),yT]
end
end
end VE
end
section
namespace VE
open Go (IntKind)
def TI{B:Nat}{H:Hp}:∀{J:Hp},(∀p,p∈J->B<=p.1)->cG B (J++H)=cG B H
 | [],_=>rfl
 | (id,o)::r,h=>by
  have:=h (id,o) (by simp)
  rw[xe,cG,zB (by simpa using this),yT,TI fun p hp=>h p (by simp[hp])]
def ac0{B:Nat}{f:Nat->Option Nat}{H:Hp}:∀{J:Hp},(∀p,p∈J->B<=p.1)->gM B f (J++H)=gM B f H
 | [],_=>rfl
 | (id,o)::r,h=>by
  have:=h (id,o) (by simp)
  rw[xe,gM,zB (by simpa using this),yT,ac0 fun p hp=>h p (by simp[hp])]
def aml{live:List Nat}{tm:Env}{B ct:Nat}{J old:Hp}{rs:List (List AV)}(hJ:∀p,p∈J->B+rs.length<=p.1)(ht:ja B (bD tm live))(ho:jw B (B+rs.length) old)(hl:(dN (bD tm live)).length+(cG B old).length<100000)(hr:(cG B old).filter (fun x=> !Nat.blt x B)=wq B rs.length):bB live ⟨tm,J++(hZ B rs++old),ct,B⟩=⟨bD tm live,hZ B rs++old,B+rs.length,B⟩:=by
 have hJ':∀p,p∈J->B<=p.1:=fun p hp=>by have:=hJ p hp;omega
 have nl:∀i (h:i<rs.length),ak (J++(hZ B rs++old)) (B+i)=Gr (.cells ydy ydy ydy 1 (rs.reverse[i]'(by simpa using h))):=fun i h=>by
  rw[acX (b:=B+rs.length) (by omega) hJ];exact Ux h
 have Qa:reach (J++(hZ B rs++old)) B 100000 (dN (bD tm live)++cG B (J++(hZ B rs++old))) []=wq B rs.length:=by
  have:=Oz (hp:=J++(hZ B rs++old)) (B:=B) (R:=rs.length) (fun i hi=>⟨_,_,_,_,nl i hi⟩) (dN (bD tm live)++cG B (J++(hZ B rs++old))) 100000 0 (by rw[TI hJ',JK,yW];exact hl) (Nat.zero_le _) (by
   rw[List.filter_append,TI hJ',JK,hr,yad.2 (fun x hx=>by
    have:=Od ht x hx
    simp[oU this])]
   simp)
  simpa using this
 have hid:∀x,x<B+rs.length->iK B (wq B rs.length) x=Gr x:=fun x hx=>abn hx
 have hn:=TY (hp:=J++(hZ B rs++old)) (f:=iK B (wq B rs.length)) rs.reverse B old (fun i hi=>nl i (by simpa using hi));rw[List.length_reverse] at hn;simp only[bB,Qa,ac0 hJ',TX,TG hid ho,hn,Uw,List.length_range']
 rw[Oy (n:=B) (fun x hx=>hid x (by omega)) ht]
end VE
end
section
namespace VE
open Go (IntKind)
def cZ(B:Nat)(s:List Nat):Nat->Option Nat:=iK B s
def Ag(B:Nat)(hp:Hp):Nat->List Nat->List Nat->List Nat:=reach hp B
def cmB(B:Nat)(hp:Hp)(s:List Nat):Hp×Nat:=(ep hp (cZ B s) s B (gM B (cZ B s) hp),B+s.length)
def ayp(B:Nat)(hp:Hp)(s:List Nat):cmB B hp s=(ep hp (cZ B s) s B (gM B (cZ B s) hp),B+s.length):=rfl
def arK(B:Nat):cG B []=[]:=rfl
def qh{B id:Nat}(o:Obj)(r:Hp)(h:id<B):cG B ((id,o)::r)=eV o++cG B r:=by rw[cG,oU h,yy]
def Lp{B id:Nat}(o:Obj)(r:Hp)(h:B<=id):cG B ((id,o)::r)=cG B r:=by rw[cG,zB h,yT]
def Se(B:Nat)(hp:Hp)(n id:Nat)(cW seen:List Nat)(q:Option Obj):List Nat:=match q with | some o=>Ag B hp n (eV o++cW) (seen++[id]) | none=>Ag B hp n cW seen
def Sf(B:Nat)(hp:Hp)(n id:Nat)(cW seen:List Nat)(b:Bool):List Nat:=bif b then Ag B hp n cW seen else Se B hp n id cW seen (ak hp id)
def auj(B:Nat)(hp:Hp)(n:Nat)(seen:List Nat):Ag B hp (n+1) [] seen=seen:=rfl
def aAw{B id:Nat}(hp:Hp)(n:Nat)(cW seen:List Nat)(h:id<B):Ag B hp (n+1) (id::cW) seen=Ag B hp n cW seen:=by
 simp only[Ag,reach,oU h,uN,yy]
def aAx{B id:Nat}(hp:Hp)(n:Nat)(cW seen:List Nat)(h:B<=id):Ag B hp (n+1) (id::cW) seen=Sf B hp n id cW seen (jK id seen):=by
 simp only[Ag,reach,zB h,vT,Sf,Se]
 cases jK id seen with
 | true=>rfl
 | false=>simp only[yT];cases ak hp id<;>rfl
def ayq(B:Nat)(hp:Hp)(n id:Nat)(cW seen:List Nat):Sf B hp n id cW seen ydy=Ag B hp n cW seen:=rfl
def ayr(B:Nat)(hp:Hp)(n id:Nat)(cW seen:List Nat):Sf B hp n id cW seen ydz=Se B hp n id cW seen (ak hp id):=rfl
def ays(B:Nat)(hp:Hp)(n id:Nat)(cW seen:List Nat)(o:Obj):Se B hp n id cW seen (Gr o)=Ag B hp n (eV o++cW) (seen++[id]):=rfl
def aAy{B id:Nat}(s:List Nat)(h:id<B):cZ B s id=Gr id:=by simp only[cZ,iK,oU h,yy]
def aAz{B id:Nat}(s:List Nat)(h:B<=id):cZ B s id=fN id s B:=by simp only[cZ,iK,zB h,yT]
def arL(B:Nat)(f:Nat->Option Nat):gM B f []=[]:=rfl
def ayt{B id:Nat}(f:Nat->Option Nat)(o:Obj)(r:Hp)(h:id<B):gM B f ((id,o)::r)=(id,fo f o)::gM B f r:=by rw[gM,oU h,yy]
def ayu{B id:Nat}(f:Nat->Option Nat)(o:Obj)(r:Hp)(h:B<=id):gM B f ((id,o)::r)=gM B f r:=by rw[gM,zB h,yT]
section
variable (B:Nat)(s:List Nat)
def auk:fM (cZ B s) []=[]:=rfl
def arM(i:Nat)(v:AV)(r:Env):fM (cZ B s) ((i,v)::r)=(i,br (cZ B s) v)::fM (cZ B s) r:=rfl
def ayv(k:xh)(n:Int):br (cZ B s) (.int k n)=.int k n:=rfl
def aul(b:Bool):br (cZ B s) (.bool b)=.bool b:=rfl
def ayw(t:List Nat):br (cZ B s) (.str t)=.str t:=rfl
def ayx(k:xY)(b:Nat):br (cZ B s) (.an k b)=.an k b:=rfl
def ayy(k:xY)(a b:Nat):br (cZ B s) (.dj k a b)=.dj k a b:=rfl
def aum:br (cZ B s) .aj=.aj:=rfl
def aun:br (cZ B s) .fZ=.fZ:=rfl
def auo:br (cZ B s) .jI=.jI:=rfl
def aup:br (cZ B s) .kP=.kP:=rfl
def ayz(e:Bool)(n:Nat)(cs:List AV):br (cZ B s) (.au e n cs)=.au e n cs:=rfl
def auq(cs:List AV):br (cZ B s) (.bA cs)=.bA cs:=rfl
def aur(a b:List AV):br (cZ B s) (.jJ a b)=.jJ a b:=rfl
def arN:br (cZ B s) .undef=.undef:=rfl
def ayA(id o:Nat):br (cZ B s) (.ptr id o)=Qp o (cZ B s id):=by cases h:cZ B s id<;>simp[br,Qp,h]
def ayB(id o n:Nat):br (cZ B s) (.ay id o n)=Qq o n (cZ B s id):=by cases h:cZ B s id<;>simp[br,Qq,h]
def aAA(g:Nat)(a b:List AV):br (cZ B s) (.fn (.f g) a b)=.fn (.f g) (dD (cZ B s) a) (dD (cZ B s) b):=rfl
def ayC(cs:List AV):br (cZ B s) (.agg cs)=.agg (dD (cZ B s) cs):=rfl
def ayD(cs:List AV):br (cZ B s) (.av cs)=.av (dD (cZ B s) cs):=rfl
def aus:dD (cZ B s) []=[]:=rfl
def arO(v:AV)(r:List AV):dD (cZ B s) (v::r)=br (cZ B s) v::dD (cZ B s) r:=rfl
def YK(hp:Hp)(r:List Nat)(k:Nat)(acc:Hp)(q:Option Obj):Hp:=match q with | some o=>ep hp (cZ B s) r (k+1) ((k,fo (cZ B s) o)::acc) | none=>ep hp (cZ B s) r (k+1) acc
def aut(hp:Hp)(k:Nat)(acc:Hp):ep hp (cZ B s) [] k acc=acc:=rfl
def arP(hp:Hp)(id:Nat)(r:List Nat)(k:Nat)(acc:Hp):ep hp (cZ B s) (id::r) k acc=YK B s hp r k acc (ak hp id):=by
 simp only[ep,YK];cases ak hp id<;>rfl
def ayE(hp:Hp)(r:List Nat)(k:Nat)(acc:Hp)(o:Obj):YK B s hp r k acc (Gr o)=ep hp (cZ B s) r (k+1) ((k,fo (cZ B s) o)::acc):=rfl
end
def apz:refs .fZ=[]:=rfl
def apA:refs .jI=[]:=rfl
def apB:refs .kP=[]:=rfl
def apC(a b:List AV):refs (.jJ a b)=[]:=rfl
def arQ(cs:List AV):refs (.av cs)=fX cs:=rfl
def arR(k:xY)(a b:Nat):refs (.dj k a b)=[]:=rfl
def auu(k:xY)(b:Nat):refs (.an k b)=[]:=rfl
attribute [go_sem] ayp arK qh Lp auj aAw aAx ayq ayr ays aAy aAz arL ayt ayu auk arM ayv aul ayw ayx ayy aum aun auo aup ayz auq aur arN ayA ayB aAA ayC ayD aus arO aut arP ayE apz apA apB apC arQ arR auu
def O9{B l:Nat}{J old:Hp}(hJ:∀p,p∈J->B<=p.1)(ho:jw B B old)(hl:l<B)(hn:(cG B old).length<=90000):zN B l (J++old)=(old,B):=by
 have h:=aml (live:=[0]) (tm:=[(0,.fn (.y l) [] [])]) (ct:=0) (rs:=[]) (by simpa using hJ) (show ja B [(0,AV.fn (.y l) [] [])] from⟨⟨hl,rfl,rfl⟩,trivial⟩) (by simpa using ho) (show [l].length+_<100000 by simp only[yB,yM];omega) (by
  rw[yad.2 (fun x hx=>by have:=TZ (yx B) ho x hx;simp[oU this])]
  rfl)
 have h2:=acZ (lv:=[0]) (tm:=[(0,.fn (.y l) [] [])]) (hp:=J++old) (ct:=0) (B:=B) (l:=l) rfl rfl hl;simp only[hZ,xt,yM,y7] at h;rw[h] at h2;injection h2 with _ h3 h4
 exact Prod.ext h3.symm h4.symm
end VE
end
section
namespace VE
open Go (IntKind)
def gC(k:Nat)(v:AV)(ps:List (List AV)):Prop:=((v=.aj/\ps=[])\/∃e,v=.au e ps.length ps.flatten)/\∀p,p∈ps->p.length=k
section
variable {k:Nat}{v:AV}{ps:List (List AV)}{hp:Hp}
def gC.len(h:gC k v ps){hp:Hp}:gF hp 1 v=Gr (.int .i64 (ps.length:Nat)):=by
 rcases h.1 with ⟨rfl,rfl⟩ | ⟨e,rfl⟩<;>rfl
def gC.pu(h:gC k v ps):aV v=ydy:=by
 rcases h.1 with ⟨rfl,rfl⟩ | ⟨e,rfl⟩<;>rfl
def gC.ah(h:gC k v ps)(n:Nat){hp:Hp}:freeze (n+1) hp v=Gr (v,hp):=by
 rcases h.1 with ⟨rfl,rfl⟩ | ⟨e,rfl⟩<;>rfl
def gC.one(h:gC k v ps):dL v=ydy:=by
 rcases h.1 with ⟨rfl,rfl⟩ | ⟨e,rfl⟩<;>rfl
def gC.cells(h:gC k v ps):cellsOf v=[v]:=by
 rcases h.1 with ⟨rfl,rfl⟩ | ⟨e,rfl⟩<;>rfl
def J8:∀{ps:List (List AV)},(∀p,p∈ps->p.length=k)->ps.flatten.length=ps.length*k
 | [],_=>by simp
 | p::ps,h=>by
  have:=J8 (ps:=ps) (fun q hq=>h q (xy _ hq))
  grind
def ac1:∀{ps:List (List AV)} {i:Nat},(∀p,p∈ps->p.length=k)->∀(hi:i<ps.length),∃rest,ps.flatten.drop (i*k)=ps[i]++rest
 | [],i,_,hi=>absurd hi (ybp i)
 | p::ps,0,h,_=>⟨ps.flatten,by simp⟩
 | p::ps,i+1,h,hi=>by
  have⟨rest,e⟩:=ac1 (ps:=ps) (i:=i) (fun q hq=>h q (xy _ hq)) (by simpa using hi);refine⟨rest,?_⟩;rw[show (i+1)*k=p.length+i*k by rw[h p xO,we];lia,List.flatten_cons,<-List.drop_drop,List.drop_left,e]
  rfl
def gC.bj(h:gC k v ps){i:Nat}(hi:i<ps.length):∃rest,jb k i v=Gr (.bA (ps[i]++rest)):=by
 obtain⟨rest,e⟩:=ac1 h.2 hi;refine⟨rest,?_⟩;rcases h.1 with ⟨rfl,rfl⟩ | ⟨b,rfl⟩
 .grind
 .rw [Pv b _ hi,e]
def arS:gC k .aj []:=⟨.inl ⟨rfl,rfl⟩,fun _ h=>by cases h⟩
def Kx(e:Bool)(h:∀p,p∈ps->p.length=k):gC k (.au e ps.length ps.flatten) ps:=⟨.inr ⟨e,rfl⟩,h⟩
end
abbrev za:=List Nat×List Nat
def fR(p:za):List AV:=[.str p.1,.str p.2]
def se(v:AV)(l:List za):Prop:=gC 2 v (l.map fR)
structure Lay where
 w:AV
 s:List (List Int)
 hh:List Nat
 sc:List Nat
 st:List Nat
 ox:List Nat
 oy:List Nat
 wx:List Nat
 wy:List Nat
def Lay.cs(a:Lay):List AV:=[a.w,.str a.hh,.str a.sc,.str a.st,.str a.ox,.str a.oy,.str a.wx,.str a.wy]
def Lay.T(a:Lay):AV:=lyT a.w a.hh a.sc a.st a.ox a.oy a.wx a.wy
noncomputable def Lay.E(a:Lay):Int:=aCT a.s a.hh a.sc a.st a.ox a.oy a.wx a.wy
section
variable {v:AV}{hp:Hp}
def se.len{l:List za}(h:se v l){hp:Hp}:gF hp 1 v=Gr (.int .i64 (l.length:Nat)):=by
 have:=gC.len (hp:=hp) h;rwa[yU] at this
def se.pu{l:List za}(h:se v l):aV v=ydy:=gC.pu h
def se.bj{l:List za}(h:se v l){i:Nat}(hi:i<l.length):∃rest,jb 2 i v=Gr (.bA (.str l[i].1:: .str l[i].2::rest)):=by
 have⟨rest,e⟩:=gC.bj h (i:=i) (by simpa using hi);refine⟨rest,?_⟩;rw[e,vz];rfl
end
end VE
end
section
namespace VE
open Go (IntKind)
noncomputable def Lay.low(sh:List Nat)(a:Lay):Bool:=axU (aS sh) (aS a.hh)
def OA{α:Type}{f:α->Int}:∀{l:List α},bf (l.map f)=0->∀a,a∈l->f a=0
 | [],_,_,h=>by cases h
 | x::l,h,a,ha=>by
  rw[yV,am4] at h;rcases xP.1 ha with rfl | ha
  .grind
  .exact OA h.2 a ha
end VE
end
section
namespace VE
open Go (IntKind)
section
variable {P:aF}{L:Lib}
def AW(h:Has P L 677 Rw){v:AV}{l:List Int}(hv:bw v l)(hl:l.length<=1000000):ab P L 677 [v] (aa (bf l)):=by
 unfold ab;rw[aD h];simp only[go_sem,ya,Rw,hv.len];have key:=O1 (P:=P) (L:=L) (live:=[5,6,7]) (a:=PS)
  (I:=fun k s=>∃tm ct i,s=⟨tm,[],ct,0⟩/\ai tm 5=v/\ai tm 6=aa l.length/\ai tm 7=aa (i:Nat)/\i+k=l.length/\bf (l.drop i)=bf l)
  (Q:=fun ex s=>∃tm,s=⟨tm,[],0,0⟩/\((ex=.ret/\ai tm 2=aa (bf l))\/(ex=.exit 0/\bf l=0))) ?_ l.length
 .generalize hq:D P L (.loop _ PS) _=q;obtain⟨ex,s,rfl,tm,rfl,h2⟩:=bg hq key ⟨_,_,0,rfl,rfl,rfl,rfl,by omega,rfl⟩;rcases h2 with ⟨rfl,h2⟩ | ⟨rfl,h2⟩
  .simp only [go_sem,h2]
  .rw [h2];simp only[go_sem]
 .rintro k s ⟨tm,ct,i,rfl,h5,h6,h7,hk,hf⟩;rw[N8 (by simp only[go_sem,h5,h6,h7,hv.pu])];simp only[go_sem,ya,h5,h6,h7,PS];by_cases hi:i<l.length
  .have da:(i:Int)<l.length:=by omega
   rw[TD hi] at hf;by_cases hz:l[i]=0
   .left
    simp only[go_sem,ya,da,hv.bj hi,hz];refine⟨_,k-1,rfl,by omega,_,_,i+1,rfl,?_⟩;rw[wrap64 (by omega) (by omega)];rw[yE hz] at hf;simp only[go_sem,ya];exact⟨trivial,trivial,rfl,by omega,hf⟩
   .right
    simp only[go_sem,ya,da,hv.bj hi,hz];rw[yp hz] at hf;refine⟨_,_,rfl,by simp,_,rfl,.inl ⟨rfl,?_⟩⟩;simp only[go_sem,hf]
  .right
   have da:¬(i:Int)<l.length:=by omega
   simp only[go_sem,da];refine⟨_,_,rfl,by simp,_,rfl,.inr ⟨rfl,?_⟩⟩;rw[<-hf,xb (by omega)];rfl
def nv(h:Has P L 692 FD)(b:Bool)(n:Int):ab P L 692 [.bool b,aa n] (aa (if b=ydy then n else 0)):=by
 unfold ab;rw[aD h]
 cases b with
 | true=>simp only[go_sem,ya,FD,xS]
 | false=>simp only[go_sem,ya,FD];rfl
def YL(h:Has P L 676 HM)(jA:Has P L 692 FD)(n lo hi:Int):ab P L 676 [aa n,aa lo,aa hi] (aa (if n<lo\/hi<n then 3 else 0)):=by
 unfold ab;rw[aD h];by_cases h1:n<lo
 .simp only [go_sem,ya,HM,h1,true_or,xS,nv jA]
 .by_cases h2:hi<n
  .simp only [go_sem,ya,HM,h1,h2,or_true,xS,nv jA]
  .simp only [go_sem,ya,HM,h1,h2,or_self,xz,nv jA];rfl
def YM(h:Has P L 647 HL){v:AV}{l:List Int}(hv:bw v l)(hl:l.length<=1000000):ab P L 647 [v] (aa (bf l)):=by
 unfold ab;rw[aD h];simp only[go_sem,HL];have key:=O1 (P:=P) (L:=L) (live:=[0,3]) (a:=PR)
  (I:=fun k s=>∃tm ct i,s=⟨tm,[],ct,0⟩/\ai tm 0=v/\ai tm 3=aa (i:Nat)/\i+k=l.length/\bf (l.drop i)=bf l)
  (Q:=fun ex s=>∃tm,s=⟨tm,[],0,0⟩/\((ex=.ret/\ai tm 2=aa (bf l))\/(ex=.exit 0/\bf l=0))) ?_ l.length
 .generalize hq:D P L (.loop _ PR) _=q;obtain⟨ex,s,rfl,tm,rfl,h2⟩:=bg hq key ⟨_,_,0,rfl,rfl,rfl,by omega,rfl⟩;rcases h2 with ⟨rfl,h2⟩ | ⟨rfl,h2⟩
  .simp only [go_sem,h2]
  .rw [h2];simp only[go_sem]
 .rintro k s ⟨tm,ct,i,rfl,h0,h3,hk,hf⟩;rw[N8 (by simp only[go_sem,h0,h3,hv.pu])];simp only[go_sem,ya,h0,h3,PR,hv.len];by_cases hi:i<l.length
  .have da:(i:Int)<l.length:=by omega
   rw[TD hi] at hf;by_cases hz:l[i]=0
   .left
    simp only[go_sem,ya,da,hv.bj hi,hz];refine⟨_,k-1,rfl,by omega,_,_,i+1,rfl,?_⟩;rw[wrap64 (by omega) (by omega)];rw[yE hz] at hf;simp only[go_sem,ya];exact⟨trivial,rfl,by omega,hf⟩
   .right
    simp only[go_sem,ya,da,hv.bj hi,hz];rw[yp hz] at hf;refine⟨_,_,rfl,by simp,_,rfl,.inl ⟨rfl,?_⟩⟩;simp only[go_sem,hf]
  .right
   have da:¬(i:Int)<l.length:=by omega
   simp only[go_sem,da];refine⟨_,_,rfl,by simp,_,rfl,.inr ⟨rfl,?_⟩⟩;rw[<-hf,xb (by omega)];rfl
end
end VE
end
section
namespace VE
open Go (IntKind)
def i4R(e:Int):Int:=if e%4=0 then 1 else if e%4=2 then -1 else 0
def i4I(e:Int):Int:=if e%4=1 then 1 else if e%4=3 then -1 else 0
def Sg{z:Int}(h:z.natAbs<2^40):Hq 40 (z:Rat):=by
 refine⟨?_,?_⟩
 .rw [vI];unfold Bd;omega
 .rw [vt];unfold Bd;decide
end VE
end
section
namespace VE
open Go (IntKind)
open Ieee
def ayF:binOp .quo (.an .f32 1065353216) (.an .f32 0)=Gr (.an .f32 2139095040):=by
 have:single.div 1065353216 0=Gr 2139095040:=by decide+kernel
 show (match single.div 1065353216 0 with | some b=>Gr (AV.an .f32 b) | none=>Gs)=_
 rw[this]
def aDi:binOp .eql (.an .f32 0) (.an .f32 0)=Gr (.bool ydy):=by
 have ez:=Qv Fl.zero Fl.zero
 rwa[yN rfl] at ez
end VE
end
section
namespace VE
open Go (IntKind)
section
variable {s:Bool}{M b:Nat}
def ayG(hb:Fl b s M):binOp .sub (.an .f32 b) (.an .f32 b)=Gr (.an .f32 0):=by
 have hf:=hb.fin;unfold ib at hf
 cases hr:yaz.read b with
 | number s m e=>
  have h1:yaU.format.sub b b=Gr 0:=afa hr;simp[binOp,P7,h1]
 | _=>rw[hr] at hf;cases hf
def aDj:binOp .eql (.an .f32 0) (.an .f32 0)=Gr (.bool ydy):=by rfl
section
variable {P:aF}{L:Lib}
def aAB(MN:Has P L 231 L3)(hb:Fl b s M):ab P L 231 [.an .f32 b] (.bool ydy):=by
 unfold ab;rw[aD MN];simp only[go_sem,ya,L3,ayG hb,aDj]
 first | done | rfl
def aAC(hx:Fx P L)(ht:Tx P L)(MN:Has P L 231 L3)(YN:Has P L 203 Q0)(hb:Fl b s M):ab P L 203 [.an .f32 b] (.av [.str (RT (lf s M)),aa 0]):=by
 have e1:=aAB MN hb;obtain⟨r,e2,hr⟩:=aCL hx hb;have e3:=m46 ht hr (W5 hb) (by decide);obtain⟨v1,v2,v3,v4,rfl,fv⟩:=hr.gen;unfold ab at e1 e2 e3;unfold ab;rw[aD YN];simp only[go_sem,ya,Q0,zu,e1,e2,e3,fv.ah,bh,yO];rfl
def aDk(ht:Tx P L)(YO:Has P L 685 Rz)(hb:Fl b s M)(e1:ab P L 203 [.an .f32 b] (.av [.str (RT (lf s M)),aa 0])):∃r,ab P L 685 [.an .f32 b] r/\bW r (lf s M):=by
 have hl:=C6 (W5 hb);obtain⟨r,e2,hr⟩:=m62 ht (a:=lf s M) (by omega);have bQ:=hr;obtain⟨v1,v2,v3,v4,rfl,fv⟩:=hr.gen;refine⟨_,?_,bQ⟩;unfold ab at e1 e2 ⊢;rw[aD YO];simp only[go_sem,ya,yb,Rz,aQ,zu,e1,fU,fS,fT,e2,bh,fv.st,dw,dB,yg,mX,fv.c9]
end
structure Exc(P:aF)(L:Lib):Prop extends Fx P L,Tx P L where
 YN:Has P L 203 Q0
 MN:Has P L 231 L3
 YO:Has P L 685 Rz
end
end VE
end
section
namespace VE
open Go (IntKind)
def c7.snoc{α β:Type}{p:α->β->Prop}:∀{l:List α} {m:List β} {a:α} {b:β},c7 p l m->p a b->c7 p (l++[a]) (m++[b])
 | [],[],_,_,_,h=>⟨h,trivial⟩
 | _::_,_::_,_,_,h,k=>⟨h.1,c7.snoc h.2 k⟩
end VE
end
section
namespace VE
open Go (IntKind)
def aY{β:Type}(p:AV->β->Prop)(v:AV)(M:List β):Prop:=∃rows,cF v rows/\c7 p rows M
section
variable {β:Type}{p:AV->β->Prop}{v:AV}{s:List β}
def aY.len(h:aY p v s){hp:Hp}:gF hp 1 v=Gr (.int .i64 (s.length:Nat)):=by
 have⟨rows,h1,h2⟩:=h;rw[<-h2.len];exact h1.len
def aY.pu(h:aY p v s):aV v=ydy:=by have⟨rows,h1,h2⟩:=h;exact h1.pu
def aY.ah(h:aY p v s)(n:Nat){hp:Hp}:freeze (n+1) hp v=Gr (v,hp):=by have⟨rows,h1,h2⟩:=h;exact h1.ah n
def aY.shut(h:aY p v s):VE.shut v=v:=by obtain⟨rows,h1,h2⟩:=h;exact h1.shut
def aY.bH(h:aY p v s):VE.bH v=v:=by obtain⟨rows,h1,h2⟩:=h;exact h1.bH
def aY.one(h:aY p v s):dL v=ydy:=by have⟨rows,h1,h2⟩:=h;exact h1.one
def aY.cells(h:aY p v s):cellsOf v=[v]:=by have⟨rows,h1,h2⟩:=h;exact h1.cells
def aY.bj(h:aY p v s){i:Nat}(hi:i<s.length):∃r rest,p r s[i]/\jb 1 i v=Gr (.bA (r::rest)):=by
 have⟨rows,h1,h2⟩:=h;have da:i<rows.length:=by rw[h2.len];exact hi
 exact⟨_,_,h2.get da hi,h1.bj da⟩
def Es:aY p .aj []:=⟨[],Aq,trivial⟩
def rJ(e:Bool){rows:List AV}(h:c7 p rows s):aY p (.au e s.length rows) s:=by
 have:=Kq e rows
 rw[h.len] at this;exact⟨rows,this,h⟩
end
def oV(id:Nat):Nat->AV
 | 0=>.aj
 | n+1=>.ay id 0 (n+1)
def oH(id z:Nat)(cs:List AV)(r:Hp):Nat->Hp
 | 0=>r
 | _+1=>(id,.cells ydy ydy ydz z cs)::r
def oC(id:Nat):Nat->Nat
 | 0=>id
 | _+1=>id+1
end VE
end
section
namespace VE
open Go (IntKind)
def pz(p:Int):Int×Int:=(i4R p,i4I p)
end VE
end
section
namespace VE
open Go (IntKind)
def B6(f:Nat->Nat->Int)(n A B:Nat):Int:=RP (fun a=>RP (fun b=>f a b) n) A+RP (fun b=>f A b) B
end VE
end
section
namespace VE
open Go (IntKind)
def aed{α:Type}{p:α->Bool}{l:List α}{i:Nat}(h:i<l.length):(l.drop i).all p=(p l[i]&&(l.drop (i+1)).all p):=by
 rw[yS h,List.all_cons]
def amz{α:Type}{f:α->Int}{l:List α}{i:Nat}(h:i<l.length):bf ((l.drop i).map f)=if f l[i]=0 then bf ((l.drop (i+1)).map f) else f l[i]:=by
 rw[yS h,yV,bf]
end VE
end
section
namespace VE
open Go (IntKind)
section
variable {v:AV}{l r:List Nat}
def cT(v:AV)(r:List Nat):Prop:=cF v (dQ r)
def Pa{i:Nat}(h:i<l.length):(dQ l)[i]'(by simpa using h)=.an .f32 l[i]:=by simp[dQ]
def su(r:List Nat):Bool:=r.any fun b=> !ib b
def nH(n:Nat)(r:List Nat):Int:=bf [if r.length=n then 0 else 2,if su r=ydy then 1 else 0]
def j0(n m:Nat)(F:List (List Nat)):Int:=if F.length=n then bf (F.map (nH m)) else 2
def pM(z lo hi:Int):Int:=if z<lo\/hi<z then 3 else 0
def iP(C R S:Int):Int:=bf [pM C 1 8,pM R 1 8,pM S 2 8]
def auv{C R S:Int}(h:iP C R S=0):(1<=C/\C<=8)/\(1<=R/\R<=8)/\2<=S/\S<=8:=by
 obtain⟨h1,h2,h3⟩:=ae6.1 h;unfold pM at h1 h2 h3;refine⟨?_,?_,?_⟩
 .by_cases c:C<1\/8<C
  .rw [yE c] at h1;exact absurd h1 (by decide)
  .omega
 .by_cases c:R<1\/8<R
  .rw [yE c] at h2;exact absurd h2 (by decide)
  .omega
 .by_cases c:S<2\/8<S
  .rw [yE c] at h3;exact absurd h3 (by decide)
  .omega
structure Frc(P:aF)(L:Lib):Prop where
 aDl:L.pure 753=Gr AU
 aDm:Has P L 641 XG
 aH1:Has P L 643 ah5
 aDn:Has P L 670 Ru
 YP:Has P L 676 HM
 AX:Has P L 677 Rw
 jA:Has P L 692 FD
 aDo:Has P L 716 XK
 YQ:Has P L 717 RE
 aDp:Has P L 741 XL
 aDq:Has P L 742 XM
 aDr:Has P L 752 RH
section
variable {P:aF}{L:Lib}
def aDs(h:L.pure 753=Gr AU)(b:Nat):ab P L 753 [.an .f32 b] (.bool (ib b)):=by
 unfold ab;simp only[bO,h,AU]
def aDt(h:Frc P L)(b:Nat):ab P L 742 [.an .f32 b] (.bool (!ib b)):=by
 have e:=aDs (P:=P) h.aDl b;unfold ab at e;unfold ab;rw[aD h.aDq];simp only[go_sem,ya,XM,zu,e]
def aDu(h:Has P L 752 RH)(hv:cF v (dQ l))(hl:l.length<=1000000){g:Nat}{p:Nat->Bool}(hg:∀x,ab P L g [.an .f32 x] (.bool (p x))):∃n:Int,ab P L 752 [v,.fn (.f g) [] []] (aa n)/\decide (0<=n)=l.any p:=by
 have hlen:(dQ l).length=l.length:=by simp
 have key:=fK P L [0,1,7,8] G9
  (fun k s=>∃i:Nat,i+k=l.length/\(l.drop i).any p=l.any p/\s=⟨[(0,v),(1,.fn (.f g) [] []),(7,aa l.length),(8,aa i)],[],0,0⟩)
  (fun ex s=>∃tm hp ct,s=⟨tm,hp,ct,0⟩/\((∃n:Int,ex=.ret/\ai tm 4=aa n/\0<=n/\l.any p=ydy)\/(ex=.exit 0/\l.any p=ydz))) ?_
 .unfold ab;rw[aD h];simp only[go_sem,ya,RH,hv.len,hlen];generalize hq:D P L (.loop _ G9) _=q;obtain⟨ex,s,rfl,tm,hp,ct,rfl,h2⟩:=bg hq (key l.length) ⟨0,by omega,rfl,by simp only[go_sem,ya,aq,aC hv.pu]<;>rfl⟩
  rcases h2 with ⟨n,rfl,h2,h3,h4⟩ | ⟨rfl,h2⟩
  .exact ⟨n,by simp only[go_sem,h2]<;>rfl,by rw[h4];simpa using h3⟩
  .exact ⟨-1,by simp only[go_sem,aq]<;>rfl,by rw[h2];decide⟩
 .rintro k s ⟨i,hk,hf,rfl⟩;by_cases hi:i<l.length
  .have da:(i:Int)<l.length:=by omega
   have e1:=hv.bj (i:=i) (by simpa using hi);rw[Pa hi] at e1;have e2:=hg l[i];unfold ab at e2;rw[adJ hi] at hf
   cases cK:p l[i] with
   | false=>
    left
    rw[cK] at e2;simp only[go_sem,ya,G9,da,e1,zu,e2];rw[cK,vT] at hf;refine⟨_,k-1,rfl,by omega,i+1,by omega,hf,?_⟩;rw[wrap64 (by omega) (by omega)];simp only[go_sem,ya,aq,aC hv.pu]<;>rfl
   | true=>
    right
    rw[cK] at e2;simp only[go_sem,ya,G9,da,e1,zu,e2];refine⟨_,_,rfl,by simp,_,_,_,rfl,.inl ⟨i,rfl,?_,by omega,?_⟩⟩
    .simp only [go_sem]
    .rw [<-hf,cK,uN]
  .right
   simp only[go_sem,ya,G9,show ¬(i:Int)<l.length by omega];refine⟨_,_,rfl,by simp,_,_,_,rfl,.inr ⟨rfl,?_⟩⟩;rw[<-hf,xb (by omega)];rfl
def aDv(YQ:Has P L 717 RE){M:List (List Nat)}(hv:aY cT v M)(hl:M.length<=1000000){g:Nat}{cap:List AV}(hc:aH cap=ydy)(hz:∀(n:Nat) (hp:Hp),cA (n+900) hp cap=Gr (cap,hp)){f:List Nat->Int}(hg:∀w a,a∈M->cT w a->ab P L g (w::cap) (aa (f a))):ab P L 717 [v,.fn (.f g) [] cap] (aa (bf (M.map f))):=by
 have pf:aV (.fn (.f g) [] cap)=ydy:=by simp[aV,aH,hc]
 have key:=fK P L [1,8,9,10] PU
  (fun k s=>∃i:Nat,s=⟨[(1,.fn (.f g) [] cap),(8,v),(9,aa M.length),(10,aa i)],[],0,0⟩/\i+k=M.length/\bf ((M.drop i).map f)=bf (M.map f))
  (fun ex s=>∃tm ct,s=⟨tm,[],ct,0⟩/\((ex=.ret/\ai tm 4=aa (bf (M.map f)))\/(ex=.exit 0/\bf (M.map f)=0))) ?_
 .unfold ab;rw[aD YQ];simp only[go_sem,ya,RE,hv.len];generalize hq:D P L (.loop _ PU) _=q;obtain⟨ex,s,rfl,tm,ct,rfl,h2⟩:=bg hq (key M.length) ⟨0,by simp only[go_sem,ya,aq,aC hv.pu,aC pf]<;>rfl,by omega,by simp⟩
  rcases h2 with ⟨rfl,h2⟩ | ⟨rfl,h2⟩
  .simp only [go_sem,h2]
  .rw [h2];simp only[go_sem,aq]
 .rintro k s ⟨i,rfl,hk,hf⟩;simp only[go_sem,ya,PU];by_cases hi:i<M.length
  .have da:(i:Int)<M.length:=by omega
   obtain⟨r,rest,hr,e0⟩:=hv.bj hi;have e1:=hg r _ (xq hi) hr;unfold ab at e1;rw[yS hi,yV] at hf;simp only[bf] at hf;by_cases cK:f M[i]=0
   .left
    rw[cK] at e1;simp only[go_sem,ya,da,e0,hr.ah,hz,e1];refine⟨_,k-1,rfl,by omega,i+1,?_,by omega,by rw[yE cK] at hf;exact hf⟩
    rw[wrap64 (by omega) (by omega)];simp only[go_sem,ya,aq,aC hv.pu,aC pf]<;>rfl
   .right
    simp only[go_sem,ya,da,e0,hr.ah,hz,e1,cK];rw[yp cK] at hf;refine⟨_,_,rfl,by simp,_,_,rfl,.inl ⟨rfl,?_⟩⟩;simp only[go_sem,hf]
  .right
   have da:¬(i:Int)<M.length:=by omega
   simp only[go_sem,da];refine⟨_,_,rfl,by simp,_,_,rfl,.inr ⟨rfl,?_⟩⟩;rw[<-hf,xb (by omega)];rfl
def aDw(h:Frc P L)(hv:cT v r)(hl:r.length<=1000000):ab P L 741 [v,.fn (.f 742) [] []] (.bool (su r)):=by
 obtain⟨n,e1,e2⟩:=aDu h.aDr hv hl (g:=742) (p:=fun b=> !ib b) (fun x=>aDt h x);have e2:decide (0<=n)=su r:=e2;have hv:cF v (dQ r):=hv;unfold ab at e1 ⊢;rw[aD h.aDp];simp only[go_sem,ya,XL,hv.ah,e1,e2]
def gB(a b c:Int)(ct:Nat):lJ ct 3 [aa a,aa b,aa c]=Gr (.ptr ct 0,.cells ydy ydy ydy 3 [aa a,aa b,aa c]):=rfl
def gY(a b c:Int):jj 3 ydy [aa a,aa b,aa c]=Gr (.agg [aa a,aa b,aa c]):=rfl
def aDx(h:Frc P L){w:AV}{C R S:Nat}(hC:C<=8)(hS:S<=8)(hw:cT w r)(hl:r.length<=1000000):ab P L 716 [w,eC C R S] (aa (nH (C*S) r)):=by
 have e1:=aDw h hw hl;have hw:cF w (dQ r):=hw;have hlen:(dQ r).length=r.length:=by simp
 have b1:C*S<=64:=yZ hC hS;have m1:(C:Int)*(S:Int)=((C*S:Nat):Int):=by rw[xx]
 have e2:=nv h.jA (!decide ((r.length:Int)=((C*S:Nat):Int))) 2;have q:decide ((r.length:Int)=((C*S:Nat):Int))=decide (r.length=C*S):=ybb.2 (by omega);rw[q] at e2;rw[show (if (!decide (r.length=C*S))=ydy then (2:Int) else 0)=(if r.length=C*S then 0 else 2) by by_cases e:r.length=C*S<;>simp[e]] at e2
 have e3:=nv h.jA (su r) 1;have e4:=AW h.AX (eP ydy [if r.length=C*S then 0 else 2,if su r=ydy then 1 else 0]) (by simp);simp only[yB,yM,ye,yb,yV,wJ] at e4;unfold ab at e1 e2 e3 e4 ⊢;rw[aD h.aDo];unfold nH
 simp only[go_sem,ya,yb,yG,yq,yh,XK,eC,Ln,P4,hw.len,hw.ah,hlen,m1,wrap64 (n:=((C*S:Nat):Int)) (by omega) (by omega),q,e1,e2,e3,e4]
def aDy(h:Frc P L){F:List (List Nat)}{C R S:Nat}(hC:C<=8)(hR:R<=8)(hS:S<=8)(hv:aY cT v F)(hl:F.length<=1000000)(hr:∀r,r∈F->r.length<=1000000):ab P L 670 [.agg [aa C,aa R,aa S],v] (aa (j0 (R*S) (C*S) F)):=by
 have e1:=aDv h.YQ hv hl (g:=716) (cap:=[eC C R S]) rfl (fun n hp=>rfl) (f:=nH (C*S)) (fun w r bQ hw=>aDx h hC hS hw (hr r bQ));have b1:R*S<=64:=yZ hR hS;have m1:(R:Int)*(S:Int)=((R*S:Nat):Int):=by rw[xx]
 unfold ab at e1 ⊢;rw[aD h.aDn];unfold eC at e1;unfold j0;by_cases hn:F.length=R*S
 .rw [yE hn]
  simp only[go_sem,ya,Ru,gB,aX,ye,yg,yL,hv.len,hv.ah,m1,wrap64 (n:=((R*S:Nat):Int)) (by omega) (by omega),hn,yv,e1]
 .rw [yp hn]
  simp only[go_sem,ya,Ru,gB,aX,ye,yg,yL,hv.len,m1,wrap64 (n:=((R*S:Nat):Int)) (by omega) (by omega),show ¬(F.length:Int)=((R*S:Nat):Int) by omega,yu]
def H7(h:Frc P L)(C R S:Int):ab P L 641 [.agg [aa C,aa R,aa S]] (aa (iP C R S)):=by
 have e1:=YL h.YP h.jA C 1 8;have e2:=YL h.YP h.jA R 1 8;have e3:=YL h.YP h.jA S 2 8;have e4:=AW h.AX (eP ydy [pM C 1 8,pM R 1 8,pM S 2 8]) (by simp);simp only[yB,yM,ye,yb,yV,wJ] at e4;unfold ab at e1 e2 e3 e4 ⊢;rw[aD h.aDm];unfold pM at e4;unfold iP pM;simp only[go_sem,ya,yb,yG,yq,yh,XG,gB,aX,ye,yg,yL,e1,e2,e3,e4]
end
end
end VE
end
section
namespace VE
open Go (IntKind)
open Ieee
def ayH{b:Nat}{s:Bool}{M:Nat}(h:Fl b s M):Hq 429 (lf s M):=by
 have hM:=h.lt;have k1:Hq 278 (((bk s M:Int)):Rat):=ad5 278 (ahz 278 277 hM (by decide)) (by decide);exact (k1.mul (W3 (-149))).mono (by decide)
section
variable {P:aF}{L:Lib}{s t:List Nat}{b:Nat}
def PJ{a:Rat}(h:a<0):RT a=45::RT (-a):=by
 have hn:a.num<0:=yaL.1 fun q=>absurd (tX.1 q) (vZ.2 h)
 rw[W4,W4,oO hn,Rat.neg_num,Rat.neg_den];obtain⟨m,hm⟩:∃m:Nat,-a.num=m:=⟨(-a.num).toNat,by omega⟩;rw[hm,mz,show a.num.natAbs=m by omega];rfl
def ahF(h:Rm P L){a:Rat}{K:Nat}(ka:Hq K a)(hK:K<=1000000):ab P L 285 [.str (RT a)] (.str (RT (cB a))):=by
 have e1:=Hu h ka (by omega);have d0:decide (bK a.num<0)=decide (a<0):=by
  have h:=oN a;by_cases c:a<0
  .rw [yN c,yN (h.2 c)]
  .rw [yC c,yC fun q=>c (h.1 q)]
 have hl:=C6 ka;unfold cB;unfold ab at e1 ⊢;rw[aD h.aCA];by_cases h0:a<0
 .rw [yE h0];have hc:=U5 (s:=RT a) (k:=1) (by rw[PJ h0];simp)
  rw[show (RT a).drop 1=RT (-a) by rw[PJ h0];rfl] at hc
  simp only[PJ h0,yB] at hc e1;rw[PJ h0];simp only[go_sem,ya,Q9,e1,d0,h0,yv,fG,fV,eE,yB,hc]
 .rw [yp h0];simp only[go_sem,ya,Q9,e1,d0,h0,yu]
end
end VE
end
section
namespace VE
open Go (IntKind)
section
variable {F:List (List Nat)}{b m n:Nat}
noncomputable def fq(b:Nat):Rat:=match yaz.read b with
 | .number s m e=>lf s (cO m e)
 | _=>0
def aAD{M:Nat}{s:Bool}(h:Fl b s M):fq b=lf s M:=by
 obtain⟨m,e,h1,h2⟩:=h.ex;unfold fq;rw[h1.read,h2]
def W7(hb:b<4294967296)(hf:ib b=ydy):∃s M,Fl b s M/\fq b=lf s M:=by
 rcases ayh hb with ⟨s,M,h⟩ | h
 .exact ⟨s,M,h,aAD h⟩
 .rw [hf] at h;cases h
def aDz(hb:b<4294967296)(hf:ib b=ydy):Hq 429 (fq b):=by
 obtain⟨s,M,h,e⟩:=W7 hb hf;rw[e];exact ayH h
structure Gl(F:List (List Nat))(n m:Nat):Prop where
 len:F.length=n
 row:∀r,r∈F->r.length=m
 fin:∀r,r∈F->∀b,b∈r->ib b=ydy/\b<4294967296
noncomputable def Bj(F:List (List Nat))(c r:Nat):Rat:=fq ((F.getD r []).getD c 0)
def af1{r:List Nat}(h:nH n r=0):r.length=n/\∀b,b∈r->ib b=ydy:=by
 unfold nH at h;obtain⟨h1,h2⟩:=Kw.1 h;have h3:r.length=n:=by
  by_cases c:r.length=n
  .exact c
  .rw [yp c] at h1;exact absurd h1 (by decide)
 refine⟨h3,fun b hb=>?_⟩
 cases hf:ib b with
 | true=>rfl
 | false=>
  have:su r=ydy:=by
   unfold su;rw[ybX];exact⟨b,hb,by rw[hf];rfl⟩
  rw[yE this] at h2;exact absurd h2 (by decide)
def auw(h:j0 n m F=0)(hb:∀r,r∈F->∀b,b∈r->b<4294967296):Gl F n m:=by
 unfold j0 at h;by_cases c:F.length=n
 .rw [yE c] at h
  have:=OA h
  exact⟨c,fun r hr=>(af1 (this r hr)).1,fun r hr b bE=>⟨(af1 (this r hr)).2 b bE,hb r hr b bE⟩⟩
 .rw [yp c] at h;exact absurd h (by decide)
def Gl.at{c r:Nat}(h:Gl F n m)(hr:r<n)(hc:c<m):∃(h1:r<F.length) (h2:c<F[r].length),Bj F c r=fq (F[r][c])/\ib (F[r][c])=ydy/\F[r][c]<4294967296:=by
 have h1:r<F.length:=by rw[h.len];exact hr
 have h2:c<F[r].length:=by rw[h.row _ (xq h1)];exact hc
 refine⟨h1,h2,?_,h.fin _ (xq h1) _ (xq h2)⟩;unfold Bj;simp only[y9,xu h1,xu h2,vh]
def Gl.H{c r:Nat}(h:Gl F n m)(hr:r<n)(hc:c<m):Hq 429 (Bj F c r):=by
 obtain⟨_,_,e,f1,f2⟩:=h.at hr hc;rw[e];exact aDz f2 f1
def qM(S i:Nat):Rat:=((2*(i:Int)+1-(S:Int):Int):Rat)/((2:Int):Rat)
def af2{S i:Nat}(hS:S<=8)(hi:i<=8):Hq 80 (qM S i):=(Sg (z:=2*(i:Int)+1-(S:Int)) (by omega)).div (Sg (z:=2) (by decide))
def ajr(ct:Nat)(a b:Int):lJ ct 2 [aa a,aa b]=Gr (.ptr ct 0,.cells ydy ydy ydy 2 [aa a,aa b]):=rfl
section
variable {P:aF}{L:Lib}
def aAE(h:Exc P L)(hb:b<4294967296)(hf:ib b=ydy):∃r,ab P L 685 [.an .f32 b] r/\bW r (fq b):=by
 obtain⟨s,M,bE,e⟩:=W7 hb hf;rw[e];exact aDk h.toTx h.YO bE (aAC h.toFx h.toTx h.MN h.YN bE)
def ajs(h:Fr' P L)(Sh:Has P L 725 RG){C R S i:Nat}(hS:S<=8)(hi:i<=8):∃x,ab P L 725 [.agg [aa C,aa R,aa S],aa i] x/\bW x (qM S i):=by
 obtain⟨u,e1,hu⟩:=D7 h (z:=2*(i:Int)+1-(S:Int)) (by omega) (by omega);obtain⟨w,e2,hw⟩:=D7 h (z:=2) (by omega) (by omega);obtain⟨x,e3,hx⟩:=m70 h hu hw (by decide) (Sg (by omega)) (Sg (by decide)) (by decide);obtain⟨u1,u2,u3,u4,rfl,gu⟩:=hu.gen;obtain⟨w1,w2,w3,w4,rfl,gw⟩:=hw.gen;have nF:=hx;obtain⟨x1,x2,x3,x4,rfl,gx⟩:=hx.gen;unfold ab at e1 e2 e3;refine⟨_,?_,nF⟩;unfold ab;rw[aD Sh]
 simp only[go_sem,ya,yb,RG,aQ,aX,ye,yg,yL,wrap64 (n:=2*(i:Int)) (by omega) (by omega),wrap64 (n:=2*(i:Int)+1) (by omega) (by omega),wrap64 (n:=2*(i:Int)+1-(S:Int)) (by omega) (by omega),e1,e2,gu.ah,gw.ah,e3,gx.st,bh,dw,dB,mX,gx.c9]
end
end
end VE
end
section
namespace VE
open Go (IntKind)
def psQ(f:Nat->Rat):Nat->Rat
 | 0=>0
 | n+1=>psQ f n+f n
structure Mom(P:aF)(L:Lib):Prop extends Fr' P L where
 Sd:Has P L 719 Mo
 aDA:Has P L 673 XI
 aH2:Has P L 724 aid
 Sh:Has P L 725 RG
def ajt(hp:Hp)(ct id:Nat)(a b:Int)(x y:AV):jr hp ct id 0 2 [aa a,aa b] (Gr (.cells ydy ydy ydy 2 [x,y]))=Gr (.av [],aR hp id (.cells ydy ydy ydy 2 [aa a,aa b]),ct):=rfl
def aDB(n:Nat)(hp:Hp)(a b:Int):freeze (n+20) hp (.agg [aa a,aa b])=Gr (.agg [aa a,aa b],hp):=bP _ _ (by simp only[go_sem])
def nA(n:Nat)(hp:Hp)(a b c:Int):freeze (n+20) hp (.agg [aa a,aa b,aa c])=Gr (.agg [aa a,aa b,aa c],hp):=bP _ _ (by simp only[go_sem])
section
variable {P:aF}{L:Lib}
def Wj{S k i:Nat}(hi:i<S):(k*S+i)%S=i:=by rw[xg,Nat.mul_add_mod,yR hi]
def Lq{S k i:Nat}(hi:i<S):(k*S+i)/S=k:=by rw[xg,Nat.mul_add_div (by omega),Nat.div_eq_of_lt hi,y7]
def W8{C S a i:Nat}(ha:a<C)(hi:i<S):a*S+i<C*S:=by
 have:=yX S (show a+1<=C by omega)
 rw[we,yah] at this;omega
end
end VE
end
section
namespace VE
open Go (IntKind)
def W9(a b:AV)(r:List AV):nY 2 1 0 (.bA (a::b::r))=Gr (.bA (a::b::r)):=rfl
def ahG(a b:AV)(r:List AV):nY 2 1 1 (.bA (a::b::r))=Gr (.bA (b::r)):=rfl
end VE
end
section
namespace VE
open Go (IntKind)
section
variable {P:aF}{L:Lib}
def hF(vs mc:List AV):Hp:=[(1,.cells ydy ydy ydy 4 mc),(0,.cells ydy ydy ydy 4 vs)]
end
end VE
end
section
namespace VE
open Go (IntKind)
structure Cen(P:aF)(L:Lib):Prop extends Mom P L,Tx P L where
 aDC:Has P L 672 Rv
 aH3:Has P L 686 ah9
 aH4:Has P L 688 aib
 H6:Has P L 718 HN
 aH5:Has P L 122 ah2
 aH6:Has P L 123 ah3
 aH7:Has P L 160 ah4
section
variable {P:aF}{L:Lib}
def aDD(h:Has P L 672 Rv)(C R S:Nat):ab P L 672 [.agg [aa C,aa R,aa S]] (.fn (.f 718) [] [eC C R S]):=by
 unfold ab;rw[aD h];simp only[go_sem,ya,yb,Rv,gB]
 first | done | rfl
end
end VE
end
section
namespace VE
open Go (IntKind)
section
variable {P:aF}{L:Lib}
def auy{C R k:Nat}(h:k<C*R):k%C<C/\k/C<R:=by
 have h0:0<C:=vY (fun e=>by rw[e,wz] at h;omega);exact⟨xE _ h0,tY h⟩
end
end VE
end
section
namespace VE
open Go (IntKind)
def Ct(a:Rat):Rat:=if a<0 then 0 else a
def aAF{a:Rat}{K:Nat}(h:Hq K a):Hq (K+2) (Ct a):=by
 unfold Ct;split
 .exact YA.mono (by omega)
 .exact h.mono (by omega)
noncomputable def mI(s:List Nat):Int:=if bX s=0 then (if aS s<0 then 3 else 0) else bX s
def auz{s:List Nat}(h:mI s=0):bX s=0/\0<=aS s:=by
 unfold mI at h;by_cases c:bX s=0
 .rw [yE c] at h;by_cases d:aS s<0
  .rw [yE d] at h;exact absurd h (by decide)
  .exact ⟨c,vQ.1 d⟩
 .rw [yp c] at h;exact absurd h c
structure aDE(C R S:Int)(c r s:Nat):Prop where
 hC:C=c
 hR:R=r
 hS:S=s
 c1:1<=c
 c8:c<=8
 r1:1<=r
 r8:r<=8
 s2:2<=s
 s8:s<=8
def aDF{C R S:Int}(h:iP C R S=0):aDE C R S C.toNat R.toNat S.toNat:=by
 obtain⟨⟨a1,a2⟩,⟨b1,b2⟩,d1,d2⟩:=auv h;exact⟨by omega,by omega,by omega,by omega,by omega,by omega,by omega,by omega,by omega⟩
structure Ctd(P:aF)(L:Lib):Prop extends Cen P L,Frc P L,Exc P L,Ck P L where
 aH8:Has P L 654 ah7
 aH9:Has P L 655 ah8
 aIa:Has P L 687 aia
 MO:Has P L 689 Mm
 aIb:Has P L 690 aic
 MP:Has P L 691 Mn
section
variable {P:aF}{L:Lib}
def aju(h:Fr' P L)(MP:Has P L 691 Mn){v:AV}{a:Rat}(hv:bW v a):∃r,ab P L 691 [v] r/\bW r (Ct a):=by
 have e1:=MB h hv;obtain⟨z,e2,hz⟩:=D7 h (z:=0) (by omega) (by omega);have cl:=hv;obtain⟨v1,v2,v3,v4,rfl,gv⟩:=hv.gen;have cK:=hz;obtain⟨z1,z2,z3,z4,rfl,gz⟩:=hz.gen;unfold ab at e1 e2;unfold Ct;by_cases c:a<0
 .have hd:decide (bK a.num<0)=ydy:=yN ((oN a).2 c);rw[yE c];refine⟨_,?_,cK⟩;unfold ab;rw[aD MP];simp only[go_sem,ya,yb,Mn,gv.bx,aQ,yg,mX,gv.ah,e1,hd,e2,gz.st,bh,dw,dB,gz.c9]
 .have hd:decide (bK a.num<0)=ydz:=yC (fun e=>c ((oN a).1 e));rw[yp c];refine⟨_,?_,cl⟩;unfold ab;rw[aD MP];simp only[go_sem,ya,yb,Mn,gv.bx,aQ,yg,mX,gv.ah,e1,hd,gv.st,dw,dB,gv.c9]
def ajv(h:Ck P L)(jA:Has P L 692 FD)(MO:Has P L 689 Mm){s:List Nat}(hl:s.length<=1000000):ab P L 689 [.str s] (aa (mI s)):=by
 have e1:=Tf h (s:=s) (by omega);unfold ab at e1;unfold mI;by_cases c:bX s=0
 .rw [yE c];obtain⟨v,e2,hv⟩:=R9 h c;have e3:=MB h.toFr' hv;obtain⟨v1,v2,v3,v4,rfl,gv⟩:=hv.gen;have hd:decide (bK (aS s).num<0)=decide (aS s<0):=ybb.2 (oN _);have e4:=nv jA (decide (aS s<0)) 3;simp only[xc] at e4;rw[c] at e1;unfold ab at e2 e3 e4;unfold ab;rw[aD MO];simp only[go_sem,ya,Mm,e1,e2,gv.ah,bh,e3,hd,e4]
 .rw [yp c];unfold ab;rw[aD MO];simp only[go_sem,ya,Mm,e1,c]
end
end VE
end
section
namespace VE
open Go (IntKind)
def bV(C R S:Nat)(v:AV):Env:=[(20,.fn (.f 718) [] [eC C R S]),(19,.agg [aa C,aa R,aa S]),(7,.ptr 2 0),(17,.bool ydz),(16,.int .i64 0),(6,.int .i64 0),(15,.int .i64 0),(14,v),(13,.agg [aa C,aa R,aa S]),(5,.int .i64 0),(4,.aj),(3,.ptr 1 0),(2,.ptr 0 0),(0,.agg [aa C,aa R,aa S]),(1,v)]
end VE
end
section
namespace VE
open Go (IntKind)
def rD(id:Nat)(o:Obj)(j:Nat):∀hp:Hp,ak (aR hp id o) j=if j=id then (ak hp id).map (fun _=>o) else ak hp j
 | []=>by by_cases h:j=id<;>simp[aR,ak,h]
 | (i,u)::r=>by
  have ih:=rD id o j r;by_cases h1:i=id
  .subst h1;rw[O0];by_cases h2:j=i
   .subst h2;rw[yE rfl,ll,ll];rfl
   .rw [yp h2,fF _ _ (fun e=>h2 e.symm),fF _ _ (fun e=>h2 e.symm)]
  .rw [rF _ _ _ h1];by_cases h2:j=i
   .subst h2;rw[yp h1,ll,ll]
   .rw [fF _ _ (fun e=>h2 e.symm),ih,fF _ _ h1,fF _ _ (fun e=>h2 e.symm)]
def arT{hp:Hp}{id:Nat}{u:Obj}(h:ak hp id=Gr u)(o:Obj)(j:Nat):ak (aR hp id o) j=if j=id then Gr o else ak hp j:=by
 rw[rD,h];rfl
def JV(id j:Nat):∀hp:Hp,ak (cN hp id) j=if j=id then Gs else ak hp j
 | []=>by split<;>rfl
 | (i,u)::r=>by
  have ih:=JV id j r;by_cases h1:i=id
  .subst h1;rw[UX,ih];by_cases h2:j=i
   .grind
   .rw [yp h2,yp h2,fF _ _ (fun e=>h2 e.symm)]
  .rw [GA _ _ h1];by_cases h2:j=i
   .subst h2;rw[yp h1,ll,ll]
   .rw [fF _ _ (fun e=>h2 e.symm),ih,fF _ _ (fun e=>h2 e.symm)]
def aee(i:Nat):∀l:List Nat,jK i l=ydy↔i∈l
 | []=>by simp[jK]
 | j::r=>by
  by_cases h:j=i
  .subst h;simp[adH]
  .rw [acL _ h,aee i r]
   grind
def U8{i:Nat}{l:List Nat}(h:i∉l):jK i l=ydz:=by
 cases hq:jK i l with
 | false=>rfl
 | true=>exact absurd ((aee i l).1 hq) h
def PK(hp:Hp):∀(ids seen cW:List Nat) (n:Nat),ids.length<n->(∀i,i∈ids->∃o,ak hp i=Gr o/\eV o=[])->ids.Nodup->(∀i,i∈ids->i∉seen)->mR hp n (ids++cW) seen=mR hp (n-ids.length) cW (seen++ids)
 | [],seen,cW,n,_,_,_,_=>by simp
 | i::ids,seen,cW,0,h,_,_,_=>by simp at h
 | i::ids,seen,cW,n+1,h,h1,h2,h3=>by
  obtain⟨o,g,e⟩:=h1 i xO;have hn:=uy.1 h2
  rw[xe,Ke,U8 (h3 i xO),Lh,g,Li,e,xt,PK hp ids (seen++[i]) cW n (by simpa using h) (fun j hj=>h1 j (xy _ hj)) hn.2 (fun j hj hm=>by
   rcases wB.1 hm with hm | hm
   .grind
   .simp only [wE] at hm
    subst hm;exact hn.1 hj)]
  grind
def afd(hp:Hp){n:Nat}(h:0<n)(seen:List Nat):mR hp n [] seen=seen:=by
 obtain⟨m,rfl⟩:∃m,n=m+1:=⟨n-1,by lia⟩;exact aeW hp m seen
def U9(hp:Hp)(f:Nat->Option Nat):∀(seen:List Nat) (k:Nat) (acc:Hp) (j:Nat),j<k->ak (ep hp f seen k acc) j=ak acc j
 | [],k,acc,j,_=>rfl
 | id::r,k,acc,j,h=>by
  rw[ep]
  cases ak hp id with
  | none=>exact U9 hp f r (k+1) acc j (by omega)
  | some o=>
   rw[U9 hp f r (k+1) _ j (by omega),fF _ _ (by omega)]
def Ub(hp:Hp)(f:Nat->Option Nat):∀(seen:List Nat) (k:Nat) (acc:Hp) (j:Nat) (h:j<seen.length) (o:Obj),ak hp seen[j]=Gr o->ak (ep hp f seen k acc) (k+j)=Gr (fo f o)
 | id::r,k,acc,0,_,o,ho=>by
  simp only[wX] at ho;rw[ep];simp only[ho];show ak (ep hp f r (k+1) ((k,fo f o)::acc)) k=_
  rw[U9 hp f r (k+1) _ k (by omega),ll]
 | id::r,k,acc,j+1,h,o,ho=>by
  have:=fun BQ=>Ub hp f r (k+1) BQ j (by simpa using h) o ho
  rw[ep,show k+(j+1)=k+1+j by omega]
  cases ak hp id with
  | none=>exact this _
  | some u=>exact this _
def Ky:∀(seen:List Nat) (k j:Nat) (h:j<seen.length),seen.Nodup->fN seen[j] seen k=Gr (k+j)
 | s::r,k,0,_,_=>by simp only[wX,y7];exact aeX s r k
 | s::r,k,j+1,h,hn=>by
  have hn:=uy.1 hn;have hj:j<r.length:=by simp_all
  simp only[uo];rw[adI _ _ (fun e=>hn.1 (by rw[e];exact xq hj)),Ky r (k+1) j hj hn.2]
  grind
def amA{live:List Nat}{tm:Env}{hp:Hp}{ct:Nat}{seen:List Nat}(hr:mR hp 100000 (dN (bD tm live)) []=seen):
  ∃ap,bB live ⟨tm,hp,ct,0⟩=⟨fM (pos seen) (bD tm live),ap,seen.length,0⟩/\∀j (h:j<seen.length) o,ak hp seen[j]=Gr o->ak ap j=Gr (fo (pos seen) o):=by
 refine⟨ep hp (pos seen) seen 0 [],by rw[aq,hr,Vt],fun j h o ho=>?_⟩
 have:=Ub hp (pos seen) seen 0 [] j h o ho
 grind
end VE
end
section
namespace VE
open Go (IntKind)
def Si(hp:Hp)(ct sz:Nat)(q:Option (Nat×List AV))(d:AV):gQ:=
 match q,d with
 | some (m,new),.ay id o n=>
  match ak hp id with
  | some (.cells ydy pu ex z cs)=>
   bif Nat.beq z sz&&(yJ (o+n*sz) cs.length&&b9 new) then
    Gr (.int .i64 (min m n:Nat),aR hp id (.cells ydy (pu&&aH new) ex z (over o (new.take (min m n*sz)) cs)),ct)
   else Gs
  | _=>Gs
 | _,_=>Gs
def af3{P:aF}{L:Lib}{f:cu}{tm:Env}{hp:Hp}{ct:Nat}(sz:Nat)(d s:X):a7 P L f tm hp ct (.px sz d s)=Si hp ct sz (nP hp sz (aB tm s)) (aB tm d):=by
 show cr tm hp ct (.px sz d s)=_
 simp only[cr,Si]
 cases nP hp sz (aB tm s) with
 | none=>rfl
 | some q=>have⟨m,new⟩:=q;cases aB tm d<;>rfl
def afe{hp:Hp}{ct id n:Nat}{ex:Bool}{cs new:List AV}(hg:ak hp id=Gr (.cells ydy ydy ex 1 cs))(hl:cs.length=n)(hn:new.length=n)(ho:b9 new=ydy)(ap:aH new=ydy):Si hp ct 1 (Gr (n,new)) (.ay id 0 n)=Gr (.int .i64 n,aR hp id (.cells ydy ydy ex 1 new),ct):=by
 have e:over 0 (new.take (min n n*1)) cs=new:=by
  simp only[over,List.take_zero,xt,ye]
  grind
 simp only[Si,hg,wK,ye,yh,hl,yz (yx n),ho,wg,yy,ap,Nat.min_self]
 grind
def b3(rows o z:List AV):Hp:=[(2,.cells ydy ydy ydy 4 z),(1,.cells ydy ydy ydy 4 o),(0,.cells ydy ydy ydy 1 rows)]
end VE
end
section
namespace VE
open Go (IntKind)
def jc(a:Nat)(ids pl:List Nat):List Nat:=a::(ids++pl)
end VE
end
section
namespace VE
open Go (IntKind)
abbrev wd{β:Type}(M:List (List β)):Nat:=(M.getD 0 []).length
end VE
end
section
namespace VE
open Go (IntKind)
abbrev z4:List AV:=[AV.int .i64 0,.aj,.int .i64 0,.aj]
end VE
end
section
namespace VE
open Go (IntKind)
def pH(i c:Nat)(rows cs:List AV):Hp:=oH (oC 0 i) 4 cs (oH 0 1 rows [] i) c
end VE
end
section
namespace VE
open Go (IntKind)
section
variable {tm tm':Env}{cs:List AV}{W ids live pl:List Nat}{a ct i n:Nat}
def iE(ids W:List Nat):List AV:=uO (fun i w=>AV.ay i 0 w) ids W
def fD(ids W:List Nat)(r:Nat):List AV:=iE ids W++yk r .aj
def auA(h:ids.length=W.length):(iE ids W).length=W.length:=by simp[iE,h]
def aef{w:Nat}(h:ids.length=W.length):iE (ids++[i]) (W++[w])=iE ids W++[.ay i 0 w]:=by
 unfold iE;rw[List.zipWith_append h];rfl
def ab6:∀r:Nat,fX (yk r AV.aj)=[]
 | 0=>rfl
 | r+1=>by rw[wQ,fX,ab6 r];rfl
def ON(r:Nat):∀{ids W:List Nat},ids.length=W.length->fX (fD ids W r)=ids
 | [],[],_=>ab6 r
 | i::ids,w::W,h=>by
  have ih:=ON r (ids:=ids) (W:=W) (by simpa using h);have e:fD (i::ids) (w::W) r=.ay i 0 w::fD ids W r:=rfl;rw[e,fX,ih];rfl
 | [],_::_,h=>by simp at h
 | _::_,[],h=>by simp at h
def ac2(f:Nat->Option Nat):∀r:Nat,dD f (yk r AV.aj)=yk r .aj
 | 0=>rfl
 | r+1=>by rw[wQ,dD,ac2 f r];rfl
def Pb{f:Nat->Option Nat}(r:Nat):∀{ids W:List Nat} (k:Nat),ids.length=W.length->(∀i (h:i<ids.length),f ids[i]=Gr (k+i))->dD f (fD ids W r)=fD (wq k ids.length) W r
 | [],[],_,_,_=>ac2 f r
 | i::ids,w::W,k,h,hf=>by
  have h0:=hf 0 (by simp);simp only[wX,y7] at h0;have ih:=Pb (f:=f) r (ids:=ids) (W:=W) (k+1) (by simpa using h) (fun j hj=>by
   have:=hf (j+1) (by simpa using hj)
   simp only[uo] at this
   rw[this];congr 1;lia)
  have e:fD (i::ids) (w::W) r=.ay i 0 w::fD ids W r:=rfl;rw[e,dD,ih,yB,List.range'_succ];simp only[br,h0];rfl
 | [],_::_,_,h,_=>by simp at h
 | _::_,[],_,h,_=>by simp at h
def UE{sz:Nat}{y:Bool}(hs:0<sz):∀(ids W:List Nat) (T:List (List AV)) (hp:Hp) (n:Nat),ids.length+4<=n->ids.length=T.length->W.length=T.length->(∀i (h1:i<ids.length) (h2:i<T.length) (h3:i<W.length),T[i].length=W[i]*sz/\∃rw,ak hp ids[i]=Gr (.cells rw ydy y sz T[i]))->
  ∃ap,cA n hp (iE ids W)=Gr (uO (fun w r=>.au y w r) W T,ap)/\∀j,j∉ids->ak ap j=ak hp j
 | [],[],[],hp,n+1,_,_,_,_=>⟨hp,rfl,fun _ _=>rfl⟩
 | [],_,[],hp,0,h,_,_,_=>by simp at h
 | [],_,_::_,_,_,_,h,_,_=>by simp at h
 | [],_::_,[],_,_,_,_,h,_=>by simp at h
 | _::_,_,[],_,_,_,h,_,_=>by simp at h
 | _::_,[],_::_,_,_,_,_,h,_=>by simp at h
 | i::ids,w::W,r::T,hp,n+1,hn,hl,hW,h=>by
  obtain⟨l0,cf,g0⟩:=h 0 (by simp) (by simp) (by simp);simp only[wX] at l0 g0;simp only[yB] at hn hl hW;obtain⟨m,rfl⟩:∃m,n=m+1+1:=⟨n-2,by omega⟩;have hz:zi (m+1) hp i=Gr (y,sz,r,if cf=ydy then aR hp i (.cells ydz ydy y sz r) else hp):=by
   rw[Kr,g0];cases cf<;>rfl
  have aAG:∃a6,(if cf=ydy then aR hp i (.cells ydz ydy y sz r) else hp)=a6/\∀j,ak a6 j=if j=i then Gr (.cells (if cf=ydy then ydz else cf) ydy y sz r) else ak hp j:=by
   refine⟨_,rfl,fun j=>?_⟩
   cases cf with
   | true=>simp only[xS];rw[arT g0]
   | false=>
    simp only[yH,xz]
    split
    .rename_i e;rw[e,g0]
    .rfl
  obtain⟨a6,e1,g1⟩:=aAG;rw[e1] at hz;obtain⟨ap,e2,g2⟩:=UE hs ids W T a6 (m+1+1) (by omega) (by omega) (by omega) (fun k h1 h2 h3=>by
   obtain⟨a,rw2,b⟩:=h (k+1) (by simpa using h1) (by simpa using h2) (by simpa using h3);simp only[uo] at a b;refine⟨a,?_⟩;rw[g1]
   split
   .rename_i e;rw[e,g0] at b;simp only[yc,Obj.cells.injEq] at b;exact⟨_,by rw[b.2.2.2.2]⟩
   .exact ⟨rw2,b⟩)
  refine⟨ap,?_,fun j hj=>?_⟩
  .have e:iE (i::ids) (w::W)=.ay i 0 w::iE ids W:=rfl;rw[e,acI,Vr,hz,gD y l0 hs,afu,e2,afv];rfl
  .simp only [xP,not_or] at hj;rw[g2 j hj.2,g1,yp hj.1]
def gT(T:List (List AV))(i:Nat):List AV:=T.getD i []
def Dk{T:List (List AV)}(h:i<T.length):gT T i=T[i]:=by
 simp[gT,y9,xu h]
def j8(n:Nat):List Nat:=(wR n).map (·+1)
def Bt(n:Nat):(j8 n).length=n:=by simp[j8]
def Uc(n:Nat):j8 n=wq 1 n:=by
 unfold j8;rw[List.range'_eq_map_range]
 grind
def Va(h:i<(j8 n).length):(j8 n)[i]=i+1:=by simp[j8]
def Vb:i∈j8 n↔0<i/\i<=n:=by
 rw[Uc,List.mem_range'_1];lia
structure zb(hp:Hp)(x y:Bool)(sz:Nat)(W:List Nat)(T:List (List AV))(r:Nat):Prop where
 l:W.length=T.length
 m:ak hp 0=Gr (.cells ydy ydz x 1 (fD (j8 T.length) W r))
 r:∀i,i<T.length->ak hp (i+1)=Gr (.cells ydy ydy y sz (gT T i))
section
variable {hp:Hp}{x y:Bool}{sz:Nat}{W:List Nat}{T:List (List AV)}{r:Nat}
def zb.ah(h:zb hp x y sz W T 0)(hs:0<sz)(hw:∀i (h1:i<T.length) (h2:i<W.length),T[i].length=W[i]*sz)(hn:T.length+4<=n):
  ∃ap,cA n hp (fD (j8 T.length) W 0)=Gr (uO (fun w r=>.au y w r) W T,ap)/\∀j,(∀i,i<T.length->j≠i+1)->ak ap j=ak hp j:=by
 have e0:fD (j8 T.length) W 0=iE (j8 T.length) W:=by unfold fD;simp
 rw[e0];obtain⟨a6,e1,g1⟩:=UE hs (j8 T.length) W T hp n (by rw[Bt];exact hn) (Bt _) h.l (fun i h1 h2 h3=>by
  refine⟨hw i h2 h3,ydy,?_⟩;rw[Va]
  have:=h.r i h2
  rwa[Dk h2] at this)
 refine⟨a6,e1,fun j hj=>g1 j fun hm=>?_⟩
 have:=Vb.1 hm
 exact hj (j-1) (by omega) (by omega)
def af4{hp ap:Hp}{id s:Nat}{cf ex:Bool}{dH:List AV}(h:cA n hp cs=Gr (dH,ap)):BV n id hp (Gr (.cells cf ydz ex s cs))=Gr (ex,s,dH,aR ap id (.cells ydz ydz ex s cs)):=by
 simp[BV,h]
def zb.BV(h:zb hp x y sz W T 0)(hs:0<sz)(hw:∀i (h1:i<T.length) (h2:i<W.length),T[i].length=W[i]*sz)(hn:T.length+4<=n):
  ∃ap,VE.BV n 0 hp (Gr (.cells ydy ydz x 1 (fD (j8 T.length) W 0)))=Gr (x,1,uO (fun w r=>.au y w r) W T,ap):=by
 obtain⟨a6,e,_⟩:=h.ah hs hw hn;exact⟨_,af4 e⟩
def aAH{cf ex:Bool}{cells:List AV}(hm:ak hp a=Gr (.cells cf ydz ex 1 cells))(hc:fX cells=ids)(hr:∀i,i∈ids->∃o,ak hp i=Gr o/\eV o=[])(a6:∀i,i∈pl->∃o,ak hp i=Gr o/\eV o=[])(hn:(jc a ids pl).Nodup)(hl:ids.length+pl.length<90000):mR hp 100000 (a::pl) []=jc a ids pl:=by
 have dZ:=uy.1 hn;have bU:∀i,i∈ids++pl->i∉[a]:=fun i hi hm=>by
  simp only[wE] at hm;subst hm;exact dZ.1 hi
 rw[show (100000:Nat)=99999+1 from rfl,Ke,adG,Lh,hm,Li,Px,hc,xt]
 have:ids++pl=(ids++pl)++[]:=by simp
 rw[this,PK hp (ids++pl) [a] [] 99999 (by rw[yW];lia) (fun i hi=>by
  rcases wB.1 hi with h | h
  .exact hr i h
  .exact a6 i h) dZ.2 bU,afd hp (by rw[yW];lia)]
 rfl
def af5(hE:dN (bD tm live)=a::pl)(hm:ak hp a=Gr (.cells ydy ydz x 1 (fD ids W r)))(hl:ids.length=T.length)(hW:W.length=T.length)(hr:∀i (h:i<ids.length),ak hp ids[i]=Gr (.cells ydy ydy y sz (gT T i)))(hM:T.length<=10000)(hn:(jc a ids pl).Nodup)(a6:∀i,i∈pl->∃o,ak hp i=Gr o/\eV o=[])(dR:pl.length<=1000)(hT:∀S,fN a S 0=Gr 0->(∀j (h:j<pl.length),fN pl[j] S 0=Gr (T.length+1+j))->fM (pos S) (bD tm live)=tm'):
  ∃ap,bB live ⟨tm,hp,ct,0⟩=⟨tm',ap,1+(T.length+pl.length),0⟩/\zb ap x y sz W T r/\∀j (h:j<pl.length) rw ex z cs,ak hp pl[j]=Gr (.cells rw ydy ex z cs)->ak ap (T.length+1+j)=Gr (.cells rw ydy ex z cs):=by
 have H8:∀i,i∈ids->∃o,ak hp i=Gr o/\eV o=[]:=fun i hi=>by
  obtain⟨k,hk,rfl⟩:=tc.1 hi;exact⟨_,hr k hk,rfl⟩
 have hR:=aAH (pl:=pl) hm (ON r (by lia)) H8 a6 hn (by lia);rw[<-hE] at hR;have⟨ap,e,g⟩:=amA (ct:=ct) hR;have ls:(jc a ids pl).length=1+(ids.length+pl.length):=by simp[jc];lia
 have s0:∀h:0<(jc a ids pl).length,(jc a ids pl)[0]=a:=fun _=>rfl
 have sI:∀i (h:i<ids.length) (h2:i+1<(jc a ids pl).length),(jc a ids pl)[i+1]=ids[i]:=fun i h h2=>by
  simp[jc,uv h]
 have sP:∀j (h:j<pl.length) (h2:T.length+1+j<(jc a ids pl).length),(jc a ids pl)[T.length+1+j]=pl[j]:=fun j h h2=>by
  have:T.length+1+j=(ids.length+j)+1:=by lia
  simp only[jc,this,uo];rw[vj (by lia)]
  simp
 have pI:∀i (h:i<ids.length),pos (jc a ids pl) ids[i]=Gr (1+i):=fun i h=>by
  have:=Ky (jc a ids pl) 0 (i+1) (by lia) hn
  rw[sI i h (by lia)] at this;rw[pos_eq,this];congr 1;lia
 have q3:fN a (jc a ids pl) 0=Gr 0:=by
  have:=Ky (jc a ids pl) 0 0 (by lia) hn
  rw[s0] at this;exact this
 have q4:∀j (h:j<pl.length),fN pl[j] (jc a ids pl) 0=Gr (T.length+1+j):=fun j hj=>by
  have:=Ky (jc a ids pl) 0 (T.length+1+j) (by lia) hn
  rw[sP j hj (by lia),ye] at this;exact this
 refine⟨ap,by rw[e,hT _ q3 q4,ls,hl],⟨hW,?_,fun i hi=>?_⟩,fun j hj cf ex z cs ho=>?_⟩
 .have:=g 0 (by lia) _ (by rw[s0];exact hm)
  rw[this];have e2:fo (pos (jc a ids pl)) (.cells ydy ydz x 1 (fD ids W r))=.cells ydy ydz x 1 (dD (pos (jc a ids pl)) (fD ids W r)):=rfl;rw[e2,Pb r 1 (by lia) pI,hl,<-Uc]
 .have:=g (i+1) (by lia) _ (by rw[sI i (by lia)];exact hr i (by lia))
  rw[this];rfl
 .have:=g (T.length+1+j) (by lia) _ (by rw[sP j hj (by lia)];exact ho)
  rw[this];rfl
def anS(hp:pl.Nodup)(h:∀i,i∈pl->n<i):(jc 0 (j8 n) pl).Nodup:=by
 unfold jc;refine uy.2 ⟨fun q=>?_,?_⟩
 .rcases wB.1 q with q | q
  .have:=Vb.1 q;lia
  .have:=h 0 q;lia
 .refine List.nodup_append.2 ⟨by rw[Uc];exact List.nodup_range',hp,fun a ha b hb e=>?_⟩
  have h1:=Vb.1 ha;have h2:=h b hb
  lia
def zb.comp(h:zb hp x y sz W T r)(hE:dN (bD tm live)=[0])(hM:T.length<=10000)(hT:∀S,fN 0 S 0=Gr 0->fM (pos S) (bD tm live)=tm'):∃ap,bB live ⟨tm,hp,ct,0⟩=⟨tm',ap,1+T.length,0⟩/\zb ap x y sz W T r:=by
 obtain⟨ap,e,g,_⟩:=af5 (ct:=ct) (pl:=[]) hE h.m (Bt _) h.l (fun i hi=>by
  rw[Va];rw[Bt] at hi;exact h.r i hi) hM (anS List.nodup_nil (fun _ q=>by cases q)) (fun _ q=>by cases q) (by simp) (fun S q _=>hT S q)
 exact⟨ap,e,g⟩
def auB{hp0:Hp}{x0:Bool}{b w r0:Nat}(h:zb hp0 x0 y sz W T r0)(hi:T.length=i)(hE:dN (bD tm live)=[a])(hb:i<b)(rn:a≠b)(ha:a=0\/i<a)(hm:ak hp a=Gr (.cells ydy ydz x 1 (iE (j8 i) W++ .ay b 0 w::yk r .aj)))(hr:∀j,j<i->ak hp (j+1)=ak hp0 (j+1))(hc:ak hp b=Gr (.cells ydy ydy y sz cs))(hM:i<=1000)(hT:∀S,fN a S 0=Gr 0->fM (pos S) (bD tm live)=tm'):∃ap,bB live ⟨tm,hp,ct,0⟩=⟨tm',ap,1+(i+1),0⟩/\zb ap x y sz (W++[w]) (T++[cs]) r:=by
 have H8:∀j (h:j<(j8 i++[b]).length),(j8 i++[b])[j]=if j<i then j+1 else b:=fun j h=>by
  by_cases hj:j<i
  .rw [yE hj,uv (by rw[Bt];exact hj),Va]
  .rw [yp hj,vj (by rw[Bt];omega)];simp
 have li:(j8 i++[b]).length=i+1:=by simp[Bt]
 have lW:W.length=i:=by rw[h.l,hi]
 obtain⟨ap,e,g,_⟩:=af5 (hp:=hp) (x:=x) (y:=y) (sz:=sz) (r:=r) (T:=T++[cs]) (W:=W++[w]) (ct:=ct) (pl:=[]) (ids:=j8 i++[b]) hE (by
  rw[hm];unfold fD;rw[aef (by rw[Bt,lW]),List.append_assoc];rfl) (by rw[li];simp[hi]) (by simp[lW,hi]) (fun j hj=>by
  rw[H8 j hj];rw[li] at hj;by_cases F0:j<i
  .rw [yE F0,hr j F0,h.r j (by omega),Dk (by omega),Dk (by simp;omega),uv]
  .have YR:j=i:=by omega
   subst YR;rw[yp (by omega),hc,Dk (by simp;omega),vj (by omega)];simp[hi]) (by simp;omega) (by
  unfold jc;rw[wu];refine uy.2 ⟨fun hx=>?_,?_⟩
  .obtain ⟨j,hj,e⟩:=tc.1 hx;rw[H8 j hj] at e;rw[li] at hj;split at e<;>omega
  .unfold List.Nodup;rw[List.pairwise_iff_getElem];intro u v hu hv huv;rw[H8 u hu,H8 v hv];rw[li] at hu hv
   split<;>split<;>omega) (fun _ q=>by cases q) (by simp) (fun S q _=>hT S q)
 exact⟨ap,by rw[e];simp[hi],g⟩
end
end
end VE
end
section
namespace VE
open Go (IntKind)
def aff:∀r:List Nat,aH (dQ r)=ydy
 | []=>rfl
 | b::r=>by
  have:=aff r
  simpa[dQ,aH,aV] using this
def aeg:∀r:List Nat,b9 (dQ r)=ydy
 | []=>rfl
 | b::r=>by
  have:=aeg r
  simpa[dQ,b9,dL] using this
def cT.src{w:AV}{r:List Nat}(h:cT w r)(hp:Hp):pY hp 1 w=Gr (r.length,dQ r):=by
 have hl:(dQ r).length=r.length:=by simp
 rcases h with ⟨rfl,h⟩ | ⟨e,rfl⟩
 .rw [h] at hl;simp only[yM] at hl;rw[h,<-hl];rfl
 .show (bif Nat.beq (dQ r).length ((dQ r).length*1) then Gr ((dQ r).length,dQ r) else Gs)=_
  rw[yh,wK,yy,hl]
section
variable {P:aF}{L:Lib}
def Gm(F:List (List Nat)):List AV:=F.map fun r=>.au ydz r.length (dQ r)
def afg:∀F:List (List Nat),c7 cT (Gm F) F
 | []=>trivial
 | r::F=>⟨.inr ⟨ydz,by
   have hl:(dQ r).length=r.length:=by simp
   rw[hl]⟩,afg F⟩
def afh:∀F:List (List Nat),uO (fun w r=>AV.au ydz w r) (F.map uE) (F.map dQ)=Gm F
 | []=>rfl
 | a::F=>by
  have:=afh F
  rw[yV,yV,List.zipWith_cons_cons,this];rfl
def aDG(YS:Has P L 639 Rl){v:AV}{F:List (List Nat)}(hv:aY cT v F)(hl:F.length<=900)(hr:∀r,r∈F->r.length<=1000000):∃w,ab P L 639 [v] w/\aY cT w F/\shut w=w:=by
 have key:cE P L [3,6,7,8] ER (fun d st=>∃i:Nat,i+d=F.length/\((i=0/\st=⟨[(3,.aj),(6,v),(7,aa F.length),(8,aa i)],[],0,0⟩)\/(0<i/\∃hp,st=⟨[(3,.ay 0 0 i),(6,v),(7,aa F.length),(8,aa i)],hp,1+i,0⟩/\zb hp ydz ydz 1 ((F.take i).map uE) ((F.take i).map dQ) 0))) (fun ex s'=>∃tm hp ct,s'=⟨tm,hp,ct,0⟩/\ex=.exit 0/\((F=[]/\ai tm 3=.aj/\hp=[])\/(0<F.length/\ai tm 3=.ay 0 0 F.length/\zb hp ydz ydz 1 (F.map uE) (F.map dQ) 0))):=by
  apply cI;rintro d st ⟨i,hid,aM⟩;by_cases hi:i<F.length
  .left
   obtain⟨w,rest,nl,e0⟩:=hv.bj hi;have pg:=cT.src nl;have nl:cF w (dQ F[i]):=nl;have No:=hr _ (xq hi);have w4:IntKind.wrap .i64 ((i:Int)+1)=((i+1:Nat):Int):=wrap64 (by omega) (by omega);have eD:(i:Int)<F.length:=by omega
   have hap:=fun (hp:Hp) (ct id:Nat) (hg:ak hp id=Gr (.cells ydy ydy ydy 1 []))=>ff (ct:=ct) (by':=4) (new:=dQ F[i]) (m:=F[i].length) (n:=0) hg rfl (by omega) (by omega) (by decide) (aeg _)
   simp only[aff,wg,ye,xt] at hap;rcases aM with ⟨Ef,rfl⟩ | ⟨Ef,hp,rfl,hM⟩
   .subst Ef;simp only[go_sem,ya,yb,xv,yG,yq,yh,ER,eD,e0,pg,eQ,hap,gL,w4];refine⟨_,d-1,rfl,by omega,1,by omega,.inr ⟨by omega,?_⟩⟩;have e1:F.take 1=[F[0]]:=by
     rw[show (1:Nat)=0+1 from rfl,xn hi];rfl
    rw[e1];refine⟨[(1,.cells ydy ydy ydz 1 (dQ F[0])),(0,.cells ydy ydz ydz 1 [.ay 1 0 F[0].length])],by simp only[go_sem,ya,yb,aq,aC hv.pu]<;>rfl,⟨rfl,rfl,fun k hk=>?_⟩⟩
    have:k=0:=by simpa using hk
    subst this;rfl
   .have lT:((F.take i).map dQ).length=i:=by rw[yU,yP,xo (by omega)]
    have lW:((F.take i).map uE).length=i:=by rw[yU,yP,xo (by omega)]
    have g0:=hM.m;rw[lT] at g0;have gr:=hM.r;rw[lT] at gr;simp only[go_sem,ya,yb,yq,yh,ER,eD,e0,pg,eQ,hap]
    rw[ff (sz:=1) (ex:=ydz) (pu:=ydz) (cs:=fD (j8 i) ((F.take i).map uE) 0) (by rw[fF _ _ (by omega),fF _ _ (by omega),JV,yp (by omega)];exact g0) (by simp[fD,iE,Bt];omega) (by omega) (by omega) (by decide) (by simp only[go_sem])]
    simp only[go_sem,ya,w4];refine⟨_,d-1,rfl,by omega,i+1,by omega,.inr ⟨by omega,?_⟩⟩;rw[xn hi,xB,xB]
    refine auB (x:=ydz) (r:=0) hM lT (a:=1+i+1+1+1) (b:=1+i+1) (by simp only[go_sem,ya,mw hv.pu]<;>rfl) (by omega) (by omega) (by omega) (by rw[ll];simp[fD]) (fun j hj=>?_) ?_ (by omega) (fun S q=>by simp only[go_sem,ya,q,Kd _ hv.pu]<;>rfl)
    .rw [fF _ _ (by omega),fF _ _ (by omega),fF _ _ (by omega),JV,yp (by omega),JV,yp (by omega)]
    .rw [fF _ _ (by omega),fF _ _ (by omega),ll]
  .right
   have:i=F.length:=by omega
   subst this;rcases aM with ⟨Ef,rfl⟩ | ⟨Ef,hp,rfl,hM⟩
   .simp only [go_sem,ya,ER,show ¬(F.length:Int)<F.length by omega];exact⟨_,_,rfl,by simp,_,_,_,rfl,rfl,.inl ⟨List.length_eq_zero_iff.1 Ef,by simp only[go_sem,ya],rfl⟩⟩
   .simp only [go_sem,ya,ER,show ¬(F.length:Int)<F.length by omega];rw[List.take_length] at hM;exact⟨_,_,rfl,by simp,_,_,_,rfl,rfl,.inr ⟨Ef,by simp only[go_sem,ya],hM⟩⟩
 unfold ab;rw[aD YS];simp only[go_sem,ya,Rl,hv.len];generalize hq:D P L (.loop _ ER) _=q;obtain⟨ex,st,rfl,tm,hp,ct,rfl,rfl,hh⟩:=bg hq (key F.length) ⟨0,by omega,.inl ⟨rfl,by simp only[go_sem,ya,aq,aC hv.pu]<;>rfl⟩⟩
 rcases hh with ⟨rfl,t3,rfl⟩ | ⟨h0,t3,hM⟩
 .refine ⟨.aj,?_,Es,rfl⟩;simp only[go_sem,aq,t3]
 .obtain ⟨a6,e1,hM1⟩:=hM.comp (live:=[3]) (tm:=tm) (tm':=[(3,.ay 0 0 F.length)]) (ct:=ct) (by simp only[go_sem,t3]) (by rw[yU];omega) (fun S q=>by simp only[go_sem,t3,q]);obtain⟨ic,ez⟩:=hM1.BV (n:=998) (by decide) (fun i h1 h2=>by simp) (by rw[yU];omega);have eT:=afh F;have hm:=hM1.m;rw[yU] at hm ez;rw[eT] at ez;have hlen:(Gm F).length=F.length:=by simp[Gm]
  have zI:result a6 (.ay 0 0 F.length)=Gr (.au ydz F.length (Gm F)):=by
   have e2:zy deep a6 (.ay 0 0 F.length)=freeze deep a6 (.ay 0 0 F.length):=by simp only[zy,hm]
   have e3:freeze (999+1) a6 (.ay 0 0 F.length)=Gr (.au ydz F.length (Gm F),ic):=by
    rw[Vr,Kr,hm,ez];exact gD ydz (by rw[hlen,yh]) (by decide)
   simp only[result,e2];show (match freeze (999+1) a6 (.ay 0 0 F.length) with | some (v',_)=>Gr v' | none=>Gs)=_
   rw[e3]
  refine⟨.au ydz F.length (Gm F),?_,rJ ydz (afg F),rfl⟩;simp only[go_sem,e1,zI]
end
end VE
end
section
namespace VE
open Go (IntKind)
def rC(p:za):Bool:= !decide (40<p.1.length)&& !decide (40<p.2.length)
def AY(l:List za):Bool:= !(decide (10<l.length)&& !decide (l.length=65))&&l.all rC
def ayI{p:za}(h:rC p=ydy):p.1.length<=40/\p.2.length<=40:=by
 simp only[rC,yf,vS,uL] at h;omega
def VI{l:List za}(h:AY l=ydy):l.length<=65/\∀p,p∈l->p.1.length<=40/\p.2.length<=40:=by
 simp only[AY,yf,vS,Bool.and_eq_false_iff,uL,Bool.not_eq_false',xc] at h;exact⟨by omega,fun p hp=>ayI (yan.1 h.2 p hp)⟩
section
variable {P:aF}{L:Lib}
def YT(h:Has P L 765 HO){v:AV}{l:List za}(hv:se v l):ab P L 765 [v] (.bool (AY l)):=by
 have key:=fun (hl:l.length<=1000000)=>fK P L [0,3] C1
   (fun k st=>∃i:Nat,i+k=l.length/\(l.drop i).all rC=l.all rC/\st=⟨[(0,v),(3,aa i)],[],0,0⟩)
   (fun ex st=>∃tm hp ct,st=⟨tm,hp,ct,0⟩/\((ex=.ret/\ai tm 2=.bool ydz/\l.all rC=ydz)\/(ex=.exit 0/\l.all rC=ydy))) (by
   rintro k st ⟨i,hk,oB,rfl⟩;by_cases hi:i<l.length
   .obtain ⟨rest,e1⟩:=hv.bj hi;rw[aed hi] at oB;by_cases h1:40<l[i].1.length
    .right
     have hs:rC l[i]=ydz:=by simp[rC,h1]
     simp only[go_sem,ya,C1,hv.len,show (i:Int)<l.length by omega,e1,W9,show (40:Int)<l[i].1.length by omega];refine⟨_,_,rfl,by simp,_,_,_,rfl,.inl ⟨rfl,by simp only[go_sem],?_⟩⟩;rw[<-oB,hs,wH]
    .by_cases h2:40<l[i].2.length
     .right
      have hs:rC l[i]=ydz:=by simp[rC,h2]
      simp only[go_sem,ya,C1,hv.len,show (i:Int)<l.length by omega,e1,W9,ahG,show ¬(40:Int)<l[i].1.length by omega,show (40:Int)<l[i].2.length by omega,yu];refine⟨_,_,rfl,by simp,_,_,_,rfl,.inl ⟨rfl,by simp only[go_sem],?_⟩⟩;rw[<-oB,hs,wH]
     .left
      have hs:rC l[i]=ydy:=by simp[rC,h1,h2]
      simp only[go_sem,ya,C1,hv.len,show (i:Int)<l.length by omega,e1,W9,ahG,show ¬(40:Int)<l[i].1.length by omega,show ¬(40:Int)<l[i].2.length by omega,yu];rw[hs,wI] at oB;refine⟨_,k-1,rfl,by omega,i+1,by omega,oB,?_⟩;rw[wrap64 (by omega) (by omega)];simp only[go_sem,ya,aq,aC hv.pu]<;>rfl
   .right
    simp only[go_sem,ya,C1,hv.len,show ¬(i:Int)<l.length by omega];refine⟨_,_,rfl,by simp,_,_,_,rfl,.inr ⟨rfl,?_⟩⟩
    rw[<-oB,xb (by omega)];rfl)
 unfold AY;unfold ab;rw[aD h];by_cases h1:10<l.length
 .have d1:decide ((10:Int)<l.length)=ydy:=yN (by omega);by_cases h2:l.length=65
  .have d2:decide ((l.length:Int)=65)=ydy:=yN (by omega);rw[show decide (10<l.length)=ydy from yN h1,show decide (l.length=65)=ydy from yN h2];simp only[go_sem,ya,HO,hv.len,d1,d2];generalize hq:D P L (.loop _ C1) _=q;obtain⟨ex,st,rfl,tm,hp,ct,rfl,h3⟩:=bg hq (key (by omega) l.length) ⟨0,by omega,rfl,by simp only[go_sem,ya,aq,aC hv.pu]<;>rfl⟩
   rcases h3 with ⟨rfl,h3,h4⟩ | ⟨rfl,h4⟩
   .rw [h4];simp only[go_sem,h3]
   .rw [h4];simp only[go_sem,aq]
  .have d2:decide ((l.length:Int)=65)=ydz:=yC (by omega);rw[show decide (10<l.length)=ydy from yN h1,show decide (l.length=65)=ydz from yC h2];simp only[go_sem,ya,HO,hv.len,d1,d2]
 .have d1:decide ((10:Int)<l.length)=ydz:=yC (by omega);rw[show decide (10<l.length)=ydz from yC h1];simp only[go_sem,ya,HO,hv.len,d1];generalize hq:D P L (.loop _ C1) _=q;obtain⟨ex,st,rfl,tm,hp,ct,rfl,h3⟩:=bg hq (key (by omega) l.length) ⟨0,by omega,rfl,by simp only[go_sem,ya,aq,aC hv.pu]<;>rfl⟩
  rcases h3 with ⟨rfl,h3,h4⟩ | ⟨rfl,h4⟩
  .rw [h4];simp only[go_sem,h3]
  .rw [h4];simp only[go_sem,aq]
end
end VE
end
section
namespace VE
open Go (IntKind)
def Pc(tm:Env)(id o n:Nat)(rs:List (Nat×Bool×Nat)):BM tm (.ay id o n) rs=mA tm id rs:=rfl
end VE
end
section
namespace VE
open Go (IntKind)
def Gn(C R S:Int):Bool:=decide (C<=3\/8<C)&&(decide (R<=3\/8<R)&&decide (S<=4\/8<S))
def Ff(F:List (List Nat)):Bool:=F.all fun r=>decide (r.length<=14)
def zc(F:List (List Nat)):Bool:=decide (F.length<=14)&&Ff F
def Wk{F:List (List Nat)}(h:zc F=ydy):F.length<=14/\∀r,r∈F->r.length<=14:=by
 unfold zc Ff at h;rw[yf] at h;exact⟨of_decide_eq_true h.1,fun r hr=>of_decide_eq_true (yan.1 h.2 r hr)⟩
structure Rfc(P:aF)(L:Lib):Prop where
 aDH:L.pure 427=Gr AU
 MQ:Has P L 642 Mi
 aIc:Has P L 644 ah6
 YU:Has P L 647 HL
 aDI:Has P L 648 XH
 H9:Has P L 678 Ml
 aDJ:Has P L 680 Rx
section
variable {P:aF}{L:Lib}
def aDK(h:Has P L 636 Mh){v:AV}{F:List (List Nat)}(hv:aY cT v F):ab P L 636 [v] (.bool (zc F)):=by
 unfold ab;rw[aD h];unfold zc;by_cases h9:F.length<=14
 .have key:=fK P L [0,3] G1
   (fun k st=>∃i:Nat,i+k=F.length/\Ff (F.drop i)=Ff F/\st=⟨[(0,v),(3,aa i)],[],0,0⟩)
   (fun ex st=>∃tm hp ct,st=⟨tm,hp,ct,0⟩/\((ex=.ret/\ai tm 2=.bool ydz/\Ff F=ydz)\/(ex=.exit 0/\Ff F=ydy))) (by
   rintro k st ⟨i,hk,hf,rfl⟩;by_cases hi:i<F.length
   .obtain ⟨w,rest,hw,e1⟩:=hv.bj hi;have hw:cF w (dQ F[i]):=hw;have hlen:(dQ F[i]).length=F[i].length:=by simp
    unfold Ff at hf;rw[aed hi] at hf;by_cases h1:F[i].length<=14
    .left
     rw[yN h1,wI] at hf;simp only[go_sem,ya,G1,hv.len,show (i:Int)<F.length by omega,e1,hw.len,hlen,show ¬(14:Int)<F[i].length by omega,yu];refine⟨_,k-1,rfl,by omega,i+1,by omega,hf,?_⟩;rw[wrap64 (by omega) (by omega)];simp only[go_sem,ya,aq,aC hv.pu]<;>rfl
    .right
     rw[yC h1,wH] at hf;simp only[go_sem,ya,G1,hv.len,show (i:Int)<F.length by omega,e1,hw.len,hlen,show (14:Int)<F[i].length by omega];exact⟨_,_,rfl,by simp,_,_,_,rfl,.inl ⟨rfl,by simp only[go_sem],hf.symm⟩⟩
   .right
    simp only[go_sem,ya,G1,hv.len,show ¬(i:Int)<F.length by omega];refine⟨_,_,rfl,by simp,_,_,_,rfl,.inr ⟨rfl,?_⟩⟩
    rw[<-hf,xb (by omega)];rfl)
  rw[yN h9,wI];simp only[go_sem,ya,Mh,hv.len,show ¬(14:Int)<F.length by omega,yu];generalize hq:D P L (.loop _ G1) _=q;obtain⟨ex,st,rfl,tm,hp,ct,rfl,h3⟩:=bg hq (key F.length) ⟨0,by omega,rfl,by simp only[go_sem,ya,aq,aC hv.pu]<;>rfl⟩
  rcases h3 with ⟨rfl,h3,h4⟩ | ⟨rfl,h4⟩
  .rw [h4];simp only[go_sem,h3]
  .rw [h4];simp only[go_sem,aq]
 .rw [yC h9,wH];simp only[go_sem,ya,Mh,hv.len,show (14:Int)<F.length by omega]
def YV(h:Has P L 634 Rk)(C R S:Int):ab P L 634 [.agg [aa C,aa R,aa S]] (.bool (Gn C R S)):=by
 unfold ab;rw[aD h];unfold Gn;by_cases c1:C<=3<;>by_cases c2:8<C<;>by_cases r1:R<=3<;>by_cases r2:8<R<;>by_cases s1:S<=4<;>by_cases s2:8<S<;>simp only[go_sem,ya,Rk,gB,aX,ye,yg,yL,c1,c2,r1,r2,s1,s2,yv,yu,wI,wH,or_true,true_or,or_self]
def YW(h:Has P L 678 Ml)(n lo hi:Int):ab P L 678 [aa n,aa lo,aa hi] (aa (pM n lo hi)):=by
 unfold ab;rw[aD h];unfold pM;by_cases c1:n<lo<;>by_cases c2:hi<n<;>simp only[go_sem,ya,Ml,c1,c2,yv,yu,or_self,or_true,true_or,xS,xz]
def ahH(MQ:Has P L 642 Mi)(YU:Has P L 647 HL)(H9:Has P L 678 Ml)(C R S:Int):ab P L 642 [.agg [aa C,aa R,aa S]] (aa (iP C R S)):=by
 have e1:=YW H9 C 1 8;have e2:=YW H9 R 1 8;have e3:=YW H9 S 2 8;have e4:=YM YU (eP ydy [pM C 1 8,pM R 1 8,pM S 2 8]) (by simp);simp only[yB,yM,ye,yb,yV,wJ] at e4;unfold ab at e1 e2 e3 e4 ⊢;rw[aD MQ];unfold iP;simp only[go_sem,ya,yb,yG,yq,yh,Mi,gB,aX,ye,yg,yL,e1,e2,e3,e4]
end
end VE
end
section
namespace VE
open Go (IntKind)
section
variable {v:AV}{F:List (List Nat)}
section
variable {P:aF}{L:Lib}
def aDL(h:L.pure 427=Gr AU)(b:Nat):ab P L 427 [.an .f32 b] (.bool (ib b)):=by
 unfold ab;simp only[bO,h,AU]
def ayJ(h:Rfc P L){w:AV}{r:List Nat}{m i:Nat}(hv:aY cT v F)(hi:i<F.length)(hr:F[i]=r)(hl:r.length<=1000000):
  cE P L [0,2,7,8] G5 (fun d st=>∃k,k+d=r.length/\su (r.drop k)=su r/\st=⟨[(0,v),(2,aa m),(7,aa i),(8,aa k)],[],0,0⟩) (fun ex s'=>∃tm ct,s'=⟨tm,[],ct,0⟩/\((ex=.ret/\ai tm 6=aa 1/\su r=ydy)\/(ex=.exit 2/\su r=ydz/\bD tm [0,2,7]=[(0,v),(2,aa m),(7,aa i)]))):=by
 apply cI;rintro d st ⟨k,hk,hf,rfl⟩;obtain⟨x,rest,hx,e0⟩:=hv.bj hi;rw[hr] at hx;have hx:cF x (dQ r):=hx;have hlen:(dQ r).length=r.length:=by simp
 by_cases Io:k<r.length
 .have e1:=hx.bj (i:=k) (by simpa using Io);rw[Pa Io] at e1;have e2:=aDL (P:=P) h.aDH r[k];unfold su at hf;rw[adJ Io] at hf;unfold ab at e2
  cases hz:ib r[k] with
  | true=>
   left
   rw[hz] at e2 hf;simp only[go_sem,ya,G5,e0,hx.len,hlen,show (k:Int)<r.length by omega,e1,zu,e2,yO];refine⟨_,d-1,rfl,by omega,k+1,by omega,hf,?_⟩;rw[wrap64 (by omega) (by omega)];simp only[go_sem,ya,aq,aC hv.pu]<;>rfl
  | false=>
   right
   rw[hz] at e2 hf;simp only[go_sem,ya,G5,e0,hx.len,hlen,show (k:Int)<r.length by omega,e1,zu,e2,yY];exact⟨_,_,rfl,by simp,_,_,rfl,.inl ⟨rfl,by simp only[go_sem],hf.symm⟩⟩
 .right
  simp only[go_sem,ya,G5,e0,hx.len,hlen,show ¬(k:Int)<r.length by omega];refine⟨_,_,rfl,by simp,_,_,rfl,.inr ⟨rfl,?_,by simp only[go_sem,ya]⟩⟩;rw[<-hf,xb (by omega)];rfl
def aDM(h:Rfc P L){n m:Nat}(hv:aY cT v F)(hl:F.length<=1000000)(hr:∀r,r∈F->r.length<=1000000):ab P L 680 [v,aa n,aa m] (aa (j0 n m F)):=by
 unfold ab;rw[aD h.aDJ];unfold j0;by_cases hn:F.length=n
 .rw [yE hn];have key:=fK P L [0,2,7] G6
   (fun d st=>∃i:Nat,i+d=F.length/\bf ((F.drop i).map (nH m))=bf (F.map (nH m))/\st=⟨[(0,v),(2,aa m),(7,aa i)],[],0,0⟩)
   (fun ex st=>∃tm ct,st=⟨tm,[],ct,0⟩/\((ex=.ret/\ai tm 6=aa (bf (F.map (nH m))))\/(ex=.exit 0/\bf (F.map (nH m))=0))) (by
   rintro d st ⟨i,hd,hf,rfl⟩;by_cases hi:i<F.length
   .obtain ⟨x,rest,hx,e0⟩:=hv.bj hi;have No:=hr _ (xq hi);have YJ:=ayJ h (v:=v) (w:=v) (m:=m) hv hi rfl No;have hx:cF x (dQ F[i]):=hx;have hlen:(dQ F[i]).length=F[i].length:=by simp
    rw[amz hi] at hf;by_cases h1:F[i].length=m
    .have FT:(F[i].length:Int)=m:=by omega
     simp only[go_sem,ya,G6,hv.len,show (i:Int)<F.length by omega,e0,hx.len,hlen,FT,yv,yO];generalize hq:D P L (.loop _ G5) _=q;obtain⟨ex,st,rfl,tm,ct,rfl,hh⟩:=bg hq (YJ F[i].length) ⟨0,by omega,rfl,by simp only[go_sem,ya,aq,aC hv.pu]<;>rfl⟩
     rcases hh with ⟨rfl,g1,g2⟩ | ⟨rfl,g1,g2⟩
     .right
      have hE:nH m F[i]=1:=by unfold nH;rw[yE h1,g2];rfl
      rw[hE,yp (by decide)] at hf;simp only[go_sem];exact⟨_,_,rfl,by simp,_,_,rfl,.inl ⟨rfl,by rw[g1,hf]⟩⟩
     .left
      have hE:nH m F[i]=0:=by unfold nH;rw[yE h1,g1];rfl
      rw[hE,yE rfl] at hf;have bN:∀ct,bB [0,2,7] ⟨tm,[],ct,0⟩=⟨[(0,v),(2,aa m),(7,aa i)],[],0,0⟩:=fun ct=>by
       rw[N8 (by rw[g2];simp only[go_sem,hv.pu]),g2]
      simp only[go_sem,ya,bN];refine⟨_,d-1,rfl,by omega,i+1,by omega,hf,?_⟩;rw[wrap64 (by omega) (by omega)];simp only[go_sem,ya,aq,aC hv.pu]<;>rfl
    .right
     have hE:nH m F[i]=2:=by unfold nH;rw[yp h1];rfl
     rw[hE,yp (by decide)] at hf;have FT:¬(F[i].length:Int)=m:=by omega
     simp only[go_sem,ya,G6,hv.len,show (i:Int)<F.length by omega,e0,hx.len,hlen,FT,yu,yY];exact⟨_,_,rfl,by simp,_,_,rfl,.inl ⟨rfl,by rw[<-hf];simp only[go_sem]⟩⟩
   .right
    simp only[go_sem,ya,G6,hv.len,show ¬(i:Int)<F.length by omega];refine⟨_,_,rfl,by simp,_,_,rfl,.inr ⟨rfl,?_⟩⟩
    rw[<-hf,xb (by omega)];rfl)
  have dZ:(F.length:Int)=n:=by omega
  simp only[go_sem,ya,Rx,hv.len,dZ,yv,yO];generalize hq:D P L (.loop _ G6) _=q;obtain⟨ex,st,rfl,tm,ct,rfl,hh⟩:=bg hq (key F.length) ⟨0,by omega,rfl,by simp only[go_sem,ya,aq,aC hv.pu]<;>rfl⟩
  rcases hh with ⟨rfl,h2⟩ | ⟨rfl,h2⟩
  .simp only [go_sem,h2]
  .rw [h2];simp only[go_sem,aq]
 .rw [yp hn];have dZ:¬(F.length:Int)=n:=by omega
  simp only[go_sem,ya,Rx,hv.len,dZ,yu,yY]
def aDN(h:Rfc P L){C R S:Nat}(hC:C<=8)(hR:R<=8)(hS:S<=8)(hv:aY cT v F)(hl:F.length<=1000000)(hr:∀r,r∈F->r.length<=1000000):ab P L 648 [.agg [aa C,aa R,aa S],v] (aa (j0 (R*S) (C*S) F)):=by
 have e1:=aDM h (n:=R*S) (m:=C*S) hv hl hr;have b1:R*S<=64:=yZ hR hS;have b2:C*S<=64:=yZ hC hS;have m1:(R:Int)*(S:Int)=((R*S:Nat):Int):=by rw[xx]
 have m2:(C:Int)*(S:Int)=((C*S:Nat):Int):=by rw[xx]
 unfold ab at e1 ⊢;rw[aD h.aDI]
 simp only[go_sem,ya,XH,gB,aX,ye,yg,yL,hv.ah,m1,m2,wrap64 (n:=((R*S:Nat):Int)) (by omega) (by omega),wrap64 (n:=((C*S:Nat):Int)) (by omega) (by omega),e1]
end
end
end VE
end
section
namespace VE
open Go (IntKind)
def aAI(ids W:List Nat):fD ids W 0=iE ids W:=by unfold fD;simp
end VE
end
section
namespace VE
open Go (IntKind)
def arU{b n:Nat}{H:Hp}{j:Nat}(h:jw b n H)(hj:b<=j):cN H j=H:=by
 induction H with
 | nil=>rfl
 | cons p r ih=>
  obtain⟨i,o⟩:=p
  have:=h.1
  rw[GA _ _ (by omega),ih h.2.2]
end VE
end
section
namespace VE
open Go (IntKind)
section
variable {P:aF}{L:Lib}
def aDO(h:Rm P L)(YX:Has P L 801 RJ){C R S i:Nat}(hS:S<=8)(hi:i<=8):ab P L 801 [.agg [aa C,aa R,aa S],aa i] (.str (RT (qM S i))):=by
 have e:=Qy h (a:=2*(i:Int)+1-(S:Int)) (b:=2) (by omega) (by omega);rw[yar] at e;unfold ab at e;unfold qM;unfold ab;rw[aD YX]
 simp only[go_sem,ya,yb,RJ,aQ,aX,ye,yg,yL,wrap64 (n:=2*(i:Int)) (by omega) (by omega),wrap64 (n:=2*(i:Int)+1) (by omega) (by omega),wrap64 (n:=2*(i:Int)+1-(S:Int)) (by omega) (by omega),e]
end
end VE
end
section
namespace VE
open Go (IntKind)
def gBx(C R S:Nat):Obj:=.cells ydy ydy ydy 3 [aa C,aa R,aa S]
def NR(C R S:Nat):List AV->List AV->List AV->List AV->List AV->List AV->Hp
 | [],_,_,a,b,c=>[(3,.cells ydy ydy ydy 1 c),(2,.cells ydy ydy ydy 1 b),(1,.cells ydy ydy ydy 1 a),(0,gBx C R S)]
 | x::l,m,n,a,b,c=>[(6,.cells ydy ydy ydy 1 c),(5,.cells ydy ydy ydy 1 b),(4,.cells ydy ydy ydy 1 a),(3,.cells ydy ydy ydz 1 n),(2,.cells ydy ydy ydz 1 m),(1,.cells ydy ydy ydz 1 (x::l)),(0,gBx C R S)]
end VE
end
section
namespace VE
open Go (IntKind)
section
variable {P:aF}{L:Lib}
def auC(h:Fy P L){v:AV}{F:List (List Nat)}{n m c r:Nat}(hv:aY cT v F)(hF:Gl F n m)(hc:c<m)(hr:r<n):∃w rest bits,jb 1 r v=Gr (.bA (w::rest))/\(∃Xa,jb 1 c w=Gr (.bA (.an .f32 bits::Xa)))/\ab P L 429 [.an .f32 bits] (.str (RT (Bj F c r))):=by
 obtain⟨bQ,kX,e,f1,f2⟩:=hF.at hr hc;obtain⟨w,rest,hw,e0⟩:=hv.bj bQ;have hw:cF w (dQ F[r]):=hw;have e1:=hw.bj (i:=c) (by simpa using kX);rw[Pa kX] at e1;obtain⟨s,M,hb,eq⟩:=W7 f2 f1
 have:=aCR h hb
 rw[<-eq,<-e] at this;exact⟨w,rest,_,e0,⟨_,e1⟩,this⟩
end
end VE
end
section
namespace VE
open Go (IntKind)
section
variable {P:aF}{L:Lib}
def aDP(h:Rm P L)(Sj:Has P L 769 HP){s:List Nat}(hl:s.length<=1000000):ab P L 769 [.str s] (aa (mI s)):=by
 have e1:=Yz h (s:=s) (by omega);unfold ab at e1;unfold mI;by_cases c:bX s=0
 .rw [yE c];have e2:=Hu h (Kv c (yx 2400)) (by decide);rw[<-(CO c).1] at e2;rw[c] at e1;unfold ab at e2;have hd:decide (bK (aS s).num<0)=decide (aS s<0):=ybb.2 (oN _);unfold ab;rw[aD Sj];by_cases c2:aS s<0
  .rw [yN c2] at hd;rw[yE c2];simp only[go_sem,ya,HP,e1,e2,hd]<;>rfl
  .rw [yC c2] at hd;rw[yp c2];simp only[go_sem,ya,HP,e1,e2,hd]<;>rfl
 .rw [yp c];unfold ab;rw[aD Sj];simp only[go_sem,ya,HP,e1,c]
def aAJ(h:Rp P L)(oA:Has P L 315 FA)(MK:Has P L 449 HK){a l:Rat}{K:Nat}(ka:Hq K a)(kl:Hq K l)(hK:K<=100000):ab P L 449 [.str [48],.str (RT (a-l))] (.str (RT (Ct (a-l)))):=by
 have e:=aCM h oA MK (a:=0) (b:=a-l) (K:=K+K+2) (YA.mono (by omega)) ((ka.sub kl).mono (by omega)) (by omega)
 have:(if (0:Rat)<a-l then a-l else 0)=Ct (a-l):=by
  unfold Ct;by_cases c:a-l<0
  .rw [yE c,yp (by grind)]
  .rw [yp c];by_cases c2:(0:Rat)<a-l
   .rw [yE c2]
   .rw [yp c2];grind
 rw[this] at e;exact e
end
end VE
end
section
namespace VE
open Go (IntKind)
abbrev ajw:Ty:=.cat (.int .i64) (.cat (.int .i64) (.cat (.int .i64) .nil))
abbrev Ia:Ty:=.sl (.an .f32)
def arV{l:List AV}(h:kI ajw l):∃c r s:Int,l=[aa c,aa r,aa s]:=by
 obtain⟨_,_,rfl,⟨c,rfl,_⟩,_,_,rfl,⟨r,rfl,_⟩,_,_,rfl,⟨s,rfl,_⟩,rfl⟩:=h;exact⟨c,r,s,rfl⟩
def ayK{b:Nat}(h:(Go.Lit.float yaU b).wf=ydy):b<4294967296:=by
 simp only[Go.Lit.wf,xc] at h;exact h
def ac3:∀{ps:List (List AV)},(∀p,p∈ps->kI (.an .f32) p)->∃l:List Nat,l.length=ps.length/\ps.flatten=dQ l/\∀b,b∈l->b<4294967296
 | [],_=>⟨[],rfl,rfl,fun _ h=>by cases h⟩
 | p::ps,h=>by
  obtain⟨b,rfl,hb⟩:=h p xO;obtain⟨l,h1,h2,h3⟩:=ac3 (ps:=ps) (fun q hq=>h q (xy _ hq));refine⟨b::l,by simp[h1],by simp[h2,dQ],fun q hq=>?_⟩;rcases xP.1 hq with rfl | hq
  .exact ayK hb
  .exact h3 q hq
def arW{l:List AV}(h:kI Ia l):∃(v:AV) (m:List Nat),l=[v]/\cT v m/\∀b,b∈m->b<4294967296:=by
 rcases h with rfl | ⟨x,ps,rfl,h⟩
 .exact ⟨_,[],rfl,Aq,fun _ h=>by cases h⟩
 .obtain ⟨m,h1,h2,h3⟩:=ac3 h;refine⟨_,m,rfl,?_,h3⟩;rw[h2,<-h1]
  have:=Kq x (dQ m)
  rwa[show (dQ m).length=m.length by simp[dQ]] at this
def aeh:∀{ps:List (List AV)},(∀p,p∈ps->kI Ia p)->∃M:List (List Nat),M.length=ps.length/\c7 cT ps.flatten M/\∀r,r∈M->∀b,b∈r->b<4294967296
 | [],_=>⟨[],rfl,trivial,fun _ h=>by cases h⟩
 | p::ps,h=>by
  obtain⟨v,m,rfl,hv,hm⟩:=arW (h p xO);obtain⟨M,h1,h2,h3⟩:=aeh (ps:=ps) (fun q hq=>h q (xy _ hq))
  exact⟨m::M,by simp[h1],⟨hv,h2⟩,fun q hq=>by
   rcases xP.1 hq with rfl | hq
   .exact hm
   .exact h3 q hq⟩
def auD{l:List AV}(h:kI (.sl Ia) l):∃(v:AV) (M:List (List Nat)),l=[v]/\aY cT v M/\∀r,r∈M->∀b,b∈r->b<4294967296:=by
 rcases h with rfl | ⟨x,ps,rfl,h⟩
 .exact ⟨_,[],rfl,Es,fun _ h=>by cases h⟩
 .obtain ⟨M,h1,h2,h3⟩:=aeh h;refine⟨_,M,rfl,?_,h3⟩;rw[<-h1];exact rJ x h2
end VE
end
section
namespace VE
open Go (IntKind)
abbrev QE:Ty:=.ar 2 .str
def arX{l:List AV}(h:kI QE l):∃x y:List Nat,l=[.str x,.str y]/\x.length<9223372036854775808/\y.length<9223372036854775808:=by
 obtain⟨ps,h1,rfl,h2⟩:=h
 match ps,h1 with
 | [a,b],_=>
  obtain⟨x,rfl,hx,_⟩:=h2 a (by simp);obtain⟨y,rfl,hy,_⟩:=h2 b (by simp);exact⟨x,y,rfl,hx,hy⟩
def ab7:∀{ps:List (List AV)},(∀p,p∈ps->kI QE p)->∃l:List za,ps=l.map fR/\∀p,p∈l->p.1.length<9223372036854775808/\p.2.length<9223372036854775808
 | [],_=>⟨[],rfl,(fun _ h=>by cases h)⟩
 | p::ps,h=>by
  obtain⟨x,y,rfl,hx,hy⟩:=arX (h p xO);obtain⟨l,h1,h2⟩:=ab7 (ps:=ps) (fun q hq=>h q (xy _ hq));refine⟨(x,y)::l,by rw[h1];rfl,fun q hq=>?_⟩
  rcases xP.1 hq with rfl | hq
  .exact ⟨hx,hy⟩
  .exact h2 q hq
def apD{l:List AV}(h:kI (.sl QE) l):∃(v:AV) (m:List za),l=[v]/\se v m/\∀p,p∈m->p.1.length<9223372036854775808/\p.2.length<9223372036854775808:=by
 rcases h with rfl | ⟨x,ps,rfl,h⟩
 .exact ⟨_,[],rfl,arS,fun _ h=>by cases h⟩
 .obtain ⟨m,rfl,h2⟩:=ab7 h
  exact⟨_,m,rfl,Kx x (fun p hp=>by obtain⟨a,_,rfl⟩:=wA.1 hp;rfl),h2⟩
end VE
end
section
namespace VE
open Go (IntKind)
def lsT(p:Nat->Nat->Rat)(e:Rat)(S t:Nat):Rat:=Ct (p (t%S) (t/S)-e)
def bM(C R S:Int):Obj:=.cells ydy ydy ydy 3 [aa C,aa R,aa S]
def z4M:List AV:=[.int .i64 0,.aj,.int .i64 0,.aj]
end VE
end
section
namespace VE
open Go (IntKind)
section
variable {v:AV}{M:List (List Rat)}{a:Rat}
noncomputable def df(a:Rat):Bool:=@decide (NF (cB a) Gs) (tj _)
def aei(h:NF (cB a) Gs):df a=ydy:=@yN _ (tj _) h
def aej{M:Nat}(h:NF (cB a) (Gr M)):df a=ydz:=@yC _ (tj _) fun q=>by have:=afW q h;cases this
def gV(x:AV)(a:Rat):Prop:=∃b M,x=.an .f32 b/\Fl b (lh a M) M/\NF (cB a) (Gr M)
def ayL:binOp .lss (.an .f32 2139095040) (.an .f32 0)=Gr (.bool ydz):=by
 have:yaz.order 2139095040 0=Gr .gt:=by decide+kernel
 show Gr (AV.bool (yaz.order 2139095040 0==Gr .lt))=_
 rw[this];rfl
structure Fto(P:aF)(L:Lib):Prop extends Fnp P L where
 aDQ:Has P L 675 XJ
 ajx:Has P L 721 RF
section
variable {P:aF}{L:Lib}
def aDR(h:Fto P L){K:Nat}(hv:bW v a)(ka:Hq K a)(hK:K<=1800):(df a=ydy->ab P L 721 [v] (.av [.an .f32 0,aa 4]))/\(df a=ydz->∃x,gV x a/\ab P L 721 [v] (.av [x,aa 0])):=by
 have e1:=aCg h.toTx hv ka (by omega);rw[aAp ka hK] at e1;have e2:=m46 h.toTx hv ka (by omega);obtain⟨o,n1,w1⟩:=aDe h.toFnp (ka.mono (by omega)) (axZ ka hK);obtain⟨v1,v2,v3,v4,rfl,g⟩:=hv.gen;unfold ab at e1 e2
 cases o with
 | none=>
  have e3:=w1;unfold ab at e3;refine⟨fun _=>?_,fun q=>by rw[aei n1] at q;cases q⟩;unfold ab;rw[aD h.ajx];simp only[go_sem,ya,yb,RF,g.bx,yg,mX,g.ah,e1,yY,e2,e3,fU,fS,fT];rfl
 | some M=>
  obtain⟨b,fb',e3⟩:=w1;unfold ab at e3;refine⟨fun q=>(by rw[aej n1] at q;cases q),fun _=>⟨.an .f32 b,⟨b,M,rfl,fb',n1⟩,?_⟩⟩;unfold ab;rw[aD h.ajx];simp only[go_sem,ya,yb,RF,g.bx,yg,mX,g.ah,e1,yY,e2,e3,fU,fS,fT];rfl
def aAK(h:Fz P L)(ka:Hq 2600 a):(df a=ydy->ab P L 388 [.str (RT a)] (.av [.an .f32 0,.bool ydz]))/\(df a=ydz->∃x,gV x a/\ab P L 388 [.str (RT a)] (.av [x,.bool ydy])):=by
 obtain⟨o,n1,w1⟩:=aCV h ka
 cases o with
 | none=>exact⟨fun _=>w1,fun q=>by rw[aei n1] at q;cases q⟩
 | some M=>
  obtain⟨b,f1,e3⟩:=w1;exact⟨fun q=>(by rw[aej n1] at q;cases q),fun _=>⟨.an .f32 b,⟨b,M,rfl,f1,n1⟩,e3⟩⟩
def YY(MR:Has P L 650 Ro){w:AV}(hv:aY (aY gV) v M)(hw:aY (aY gV) w M)(hl:M.length<=1000000)(hr:∀r,r∈M->r.length<=1000000):ab P L 650 [v,w] (.bool ydy):=by
 have key:=fK P L [0,1,5] Lb
  (fun d st=>∃i:Nat,i+d=M.length/\st=⟨[(0,v),(1,w),(5,aa i)],[],0,0⟩)
  (Q:=fun ex st=>∃tm ct,st=⟨tm,[],ct,0⟩/\ex=.exit 0) (by
   rintro d st ⟨i,hid,rfl⟩;by_cases hi:i<M.length
   .left
    obtain⟨r1,ahI,h1,e1⟩:=hv.bj hi;obtain⟨r2,Xa,h2,e2⟩:=hw.bj hi;have No:=hr _ (xq hi);have dn:bT (aa i)=Gr i:=rfl;have w1:IntKind.wrap .i64 ((i:Int)+1)=((i+1:Nat):Int):=wrap64 (by omega) (by omega);have YZ:=fK P L [0,1,5,6] La
     (fun d st=>∃j:Nat,j+d=M[i].length/\st=⟨[(0,v),(1,w),(5,aa i),(6,aa j)],[],0,0⟩)
     (Q:=fun ex st=>∃tm ct,st=⟨tm,[],ct,0⟩/\ex=.exit 2/\bD tm [0,1,5]=[(0,v),(1,w),(5,aa i)]) (by
      rintro d st ⟨j,hjd,rfl⟩;by_cases hj:j<M[i].length
      .left
       obtain⟨x,q1,hx,e3⟩:=h1.bj hj;obtain⟨y,q2,hy,e4⟩:=h2.bj hj;obtain⟨bx,A,rfl,fx,nx⟩:=hx;obtain⟨by',B,rfl,fy,ny⟩:=hy;have hAB:=afW nx ny;cases hAB;have e5:=WX fx fy;rw[yN rfl] at e5;have Tj:bT (aa j)=Gr j:=rfl;have w2:IntKind.wrap .i64 ((j:Int)+1)=((j+1:Nat):Int):=wrap64 (by omega) (by omega);simp only[go_sem,ya,La,h1.len,e1,e2,dn,Tj,show (j:Int)<M[i].length by omega,e3,e4,e5,yO,w2];exact⟨_,d-1,rfl,by omega,j+1,by omega,by simp only[go_sem,ya,aq,aC hv.pu,aC hw.pu]<;>rfl⟩
      .right
       have hjN:j=M[i].length:=by omega
       subst hjN;simp only[go_sem,ya,La,h1.len,e1,dn,show ¬(M[i].length:Int)<M[i].length by omega]
       exact⟨_,_,rfl,by simp,_,_,rfl,rfl,by simp only[go_sem,ya]<;>rfl⟩) M[i].length
    simp only[go_sem,ya,Lb,hv.len,h1.len,h2.len,dn,show (i:Int)<M.length by omega,e1,e2,yv,yO];generalize hQ:D P L (.loop _ La) _=Q;obtain⟨ex,st,rfl,tm,ct,rfl,rfl,cY⟩:=bg hQ YZ ⟨0,by omega,by simp only[go_sem,ya,aq,aC hv.pu,aC hw.pu]<;>rfl⟩
    have bN:bB [0,1,5] ⟨tm,[],ct,0⟩=⟨[(0,v),(1,w),(5,aa i)],[],0,0⟩:=by
     rw[kJ (c':=ct) (tm':=[(0,v),(1,w),(5,aa i)]) (by rw[cY];rfl)]
     simp only[go_sem,ya,aq,aC hv.pu,aC hw.pu]<;>rfl
    simp only[go_sem,ya,bN,w1];exact⟨_,d-1,rfl,by omega,i+1,by omega,by simp only[go_sem,ya,aq,aC hv.pu,aC hw.pu]<;>rfl⟩
   .right
    have oK:i=M.length:=by omega
    subst oK;simp only[go_sem,ya,Lb,hv.len,show ¬(M.length:Int)<M.length by omega]
    exact⟨_,_,rfl,by simp,_,_,rfl,rfl⟩) M.length
 unfold ab;rw[aD MR];simp only[go_sem,ya,Ro,hv.len,hw.len,yv,yO];generalize hQ:D P L (.loop _ Lb) _=Q;obtain⟨ex,st,rfl,tm,ct,rfl,rfl⟩:=bg hQ key ⟨0,by omega,by simp only[go_sem,ya,aq,aC hv.pu,aC hw.pu]<;>rfl⟩
 simp only[go_sem]
def Y0(MS:Has P L 651 Rr)(hv:aY (aY gV) v M)(hl:M.length<=1000000)(hr:∀r,r∈M->r.length<=1000000):ab P L 651 [v] (.bool ydy):=by
 have key:=fK P L [0,3] Lc
  (fun d st=>∃i:Nat,i+d=M.length/\st=⟨[(0,v),(3,aa i)],[],0,0⟩)
  (Q:=fun ex st=>∃tm ct,st=⟨tm,[],ct,0⟩/\ex=.exit 0) (by
   rintro d st ⟨i,hid,rfl⟩;by_cases hi:i<M.length
   .left
    obtain⟨r1,ahI,h1,e1⟩:=hv.bj hi;have No:=hr _ (xq hi);have dn:bT (aa i)=Gr i:=rfl;have w1:IntKind.wrap .i64 ((i:Int)+1)=((i+1:Nat):Int):=wrap64 (by omega) (by omega);have YZ:=fK P L [0,3,4] G2
     (fun d st=>∃j:Nat,j+d=M[i].length/\st=⟨[(0,v),(3,aa i),(4,aa j)],[],0,0⟩)
     (Q:=fun ex st=>∃tm ct,st=⟨tm,[],ct,0⟩/\ex=.exit 2/\bD tm [0,3]=[(0,v),(3,aa i)]) (by
      rintro d st ⟨j,hjd,rfl⟩;by_cases hj:j<M[i].length
      .left
       obtain⟨x,q1,hx,e3⟩:=h1.bj hj;obtain⟨bx,A,rfl,fx,nx⟩:=hx;have Tj:bT (aa j)=Gr j:=rfl;have w2:IntKind.wrap .i64 ((j:Int)+1)=((j+1:Nat):Int):=wrap64 (by omega) (by omega);by_cases hA:A=0
       .subst hA;have zT:lh M[i][j] 0=ydz:=by unfold lh;simp
        rw[zT] at fx
        have:=fx.pz
        subst this;simp only[go_sem,ya,G2,h1.len,e1,dn,Tj,show (j:Int)<M[i].length by omega,e3,aDi,ayF,ayL,w2];exact⟨_,d-1,rfl,by omega,j+1,by omega,by simp only[go_sem,ya,aq,aC hv.pu]<;>rfl⟩
       .have e5:=Qv fx Fl.zero;have bU:¬bk (lh M[i][j] A) A=bk ydz 0:=by
         unfold bk
         split<;>simp<;>omega
        rw[yC bU] at e5;simp only[go_sem,ya,G2,h1.len,e1,dn,Tj,show (j:Int)<M[i].length by omega,e3,e5,w2];exact⟨_,d-1,rfl,by omega,j+1,by omega,by simp only[go_sem,ya,aq,aC hv.pu]<;>rfl⟩
      .right
       have hjN:j=M[i].length:=by omega
       subst hjN;simp only[go_sem,ya,G2,h1.len,e1,dn,show ¬(M[i].length:Int)<M[i].length by omega]
       exact⟨_,_,rfl,by simp,_,_,rfl,rfl,by simp only[go_sem,ya]<;>rfl⟩) M[i].length
    simp only[go_sem,ya,Lc,hv.len,show (i:Int)<M.length by omega];generalize hQ:D P L (.loop _ G2) _=Q;obtain⟨ex,st,rfl,tm,ct,rfl,rfl,cY⟩:=bg hQ YZ ⟨0,by omega,by simp only[go_sem,ya,aq,aC hv.pu]<;>rfl⟩
    have bN:bB [0,3] ⟨tm,[],ct,0⟩=⟨[(0,v),(3,aa i)],[],0,0⟩:=by
     rw[kJ (c':=ct) (tm':=[(0,v),(3,aa i)]) (by rw[cY];rfl)]
     simp only[go_sem,ya,aq,aC hv.pu]<;>rfl
    simp only[go_sem,ya,bN,w1];exact⟨_,d-1,rfl,by omega,i+1,by omega,by simp only[go_sem,ya,aq,aC hv.pu]<;>rfl⟩
   .right
    have oK:i=M.length:=by omega
    subst oK;simp only[go_sem,ya,Lc,hv.len,show ¬(M.length:Int)<M.length by omega]
    exact⟨_,_,rfl,by simp,_,_,rfl,rfl⟩) M.length
 unfold ab;rw[aD MS];simp only[go_sem,Rr];generalize hQ:D P L (.loop _ Lc) _=Q;obtain⟨ex,st,rfl,tm,ct,rfl,rfl⟩:=bg hQ key ⟨0,by omega,by simp only[go_sem,ya,aq,aC hv.pu]<;>rfl⟩
 simp only[go_sem]
end
end
end VE
end
section
namespace VE
open Go (IntKind)
section
variable {v:AV}{M:List (List Rat)}{K:Nat}
def fH(i c:Nat)(rows cs:List AV):Hp:=oH (oC 0 i) 1 cs (oH 0 1 rows [] i) c
def Pd{α:Type}{p:α->Bool}{l:List α}{c:Nat}(hc:c<l.length):(l.take (c+1)).any p=((l.take c).any p||p l[c]):=by
 rw[xn hc,List.any_append];simp
def P5{α:Type}{p:α->Bool}{l:List α}{c:Nat}(hc:c<l.length)(h:p l[c]=ydy):l.any p=ydy:=ybX.2 ⟨_,xq hc,h⟩
def gV.ex{x:AV}{a:Rat}(h:gV x a):∃b,x=.an .f32 b:=by obtain⟨b,_,rfl,_⟩:=h;exact⟨b,rfl⟩
def VJ:∀{cs:List AV} {l:List Rat},c7 gV cs l->b9 cs=ydy/\aH cs=ydy
 | [],_,_=>⟨rfl,rfl⟩
 | x::cs,[],h=>h.elim
 | x::cs,a::l,h=>by
  obtain⟨b,rfl⟩:=h.1.ex;obtain⟨q1,q2⟩:=VJ h.2;exact⟨by simp only[b9,q1];rfl,by simp only[aH,q2];rfl⟩
section
variable {P:aF}{L:Lib}
def ayM(h:Fto P L){ra:AV}{l:List Rat}(pv:aV v=ydy)(ha:nt ra l)(hl:l.length<=1000)(kl:∀x,x∈l->Hq K x)(hK:K<=1800){i n:Nat}{rows:List AV}:
  cE P L [4,6,7,13,14,15,19,20,21] BB (fun d st=>∃(c:Nat) (cs:List AV),c+d=l.length/\(l.take c).any df=ydz/\c7 gV cs (l.take c)/\st=⟨[(4,oV 0 i),(6,ra),(7,oV (oC 0 i) c),(13,v),(14,aa n),(15,aa i),(19,ra),(20,aa l.length),(21,aa c)],fH i c rows cs,oC (oC 0 i) c,0⟩) (fun ex s'=>∃tm ct hp,s'=⟨tm,hp,ct,0⟩/\((ex=.ret/\l.any df=ydy/\ai tm 2=.aj/\ai tm 3=aa 4)\/(ex=.exit 2/\l.any df=ydz/\∃cs,hp=fH i l.length rows cs/\c7 gV cs l/\bD tm [4,6,7,13,14,15]=[(4,oV 0 i),(6,ra),(7,oV (oC 0 i) l.length),(13,v),(14,aa n),(15,aa i)]))):=by
 apply cI;rintro d st ⟨c,cs,hcd,hN,hA,rfl⟩;by_cases hc:c<l.length
 .obtain ⟨x1,x2,x3,x4,rest,e0,hx⟩:=ha.bj hc;have g:=hx.f4;obtain⟨e1,e2⟩:=aDR h hx (kl _ (xq hc)) hK;have kW:(c:Int)<(l.length:Nat):=by omega
  have Ah:bT (aa c)=Gr c:=rfl;have wc:IntKind.wrap .i64 ((c:Int)+1)=((c+1:Nat):Int):=wrap64 (by omega) (by omega);have lP:∀(hp:Hp) (a b c d:AV) (r:List AV),gH hp 4 ydy (.bA (a::b::c::d::r))=Gr (.agg [a,b,c,d]):=fun _ _ _ _ _ _=>rfl
  cases hb:df l[c] with
  | true=>
   right
   have e1:=e1 hb;unfold ab at e1;simp only[go_sem,ya,yb,BB,kW,Ah,e0,lP,aQ,g.st,yg,mX,g.ah,e1,fU,fS,fT,show ¬(4:Int)=0 by decide];exact⟨_,_,rfl,by simp,_,_,_,rfl,.inl ⟨rfl,P5 hc hb,by simp only[go_sem,ya],by simp only[go_sem]⟩⟩
  | false=>
   left
   obtain⟨x,NS,e5⟩:=e2 hb;have Y1:=NS;obtain⟨b,rfl⟩:=NS.ex;unfold ab at e5;have ia:∀tm:Env,lD tm [AV.an .f32 0] 0 1 [.an .f32 b] []=Gr [.an .f32 b]:=fun _=>rfl
   have iq:∀(cf pu ex:Bool) (a:AV),pG 0 1 1 (Gr (.cells cf pu ex 1 [a]))=Gr (1,[a]):=fun _ _ _ _=>rfl
   have dX:∀b:Nat,cellsOf (.an .f32 b)=[.an .f32 b]:=fun _=>rfl
   have gI:∀b:Nat,bH (.an .f32 b)=.an .f32 b:=fun _=>rfl
   have NT:(l.take (c+1)).any df=ydz:=by rw[Pd hc,hN,hb];rfl
   have Ei:c7 gV (cs++[.an .f32 b]) (l.take (c+1)):=by
    rw[xn hc];exact hA.snoc Y1
   have lc:=hA.len;rw[yP,xo (by omega)] at lc
   cases c with
   | zero=>
    have dY:cs=[]:=yD (by omega);subst dY;cases i
    all_goals
     simp only[oV,oH,oC,fH]
     simp only[go_sem,ya,yb,yh,BB,kW,Ah,e0,lP,aQ,g.st,yg,mX,g.ah,e5,fU,fS,fT,gI,dX,ia,eQ,kL,kK,iq,gL (sz:=1) (by':=4) (new:=[AV.an .f32 b]) (m:=1) (by decide) (by decide) (by decide) (by decide),wc];refine⟨_,d-1,rfl,by omega,1,[.an .f32 b],by omega,NT,Ei,?_⟩;simp only[go_sem,ya,yb,aq,aC pv,aC ha.pu]<;>rfl
   | succ c=>
    cases i
    all_goals
     simp only[oV,oH,oC,fH];have iQ:=fun (hp:Hp) (ct id:Nat) (hg:ak hp id=Gr (.cells ydy ydy ydz 1 cs))=>ff (ct:=ct) (by':=4) (new:=[AV.an .f32 b]) (m:=1) (n:=c+1) hg (by rw[lc,yh]) (by omega) (by omega) (by decide) rfl
     simp only[go_sem,ya,yb,yh,BB,kW,Ah,e0,lP,aQ,g.st,yg,mX,g.ah,e5,fU,fS,fT,gI,dX,ia,eQ,kL,kK,iq,iQ,wc,wg];refine⟨_,d-1,rfl,by omega,c+1+1,cs++[.an .f32 b],by omega,NT,Ei,?_⟩;simp only[go_sem,ya,aq,aC pv,aC ha.pu]<;>rfl
 .right
  have dX:c=l.length:=by omega
  subst dX;rw[yK (yx _)] at hN hA;simp only[go_sem,ya,BB,show ¬(l.length:Int)<l.length by omega];exact⟨_,_,rfl,by simp,_,_,_,rfl,.inr ⟨rfl,hN,cs,rfl,hA,by simp only[go_sem,ya]<;>rfl⟩⟩
def ayN(h:Fto P L)(hv:aY nt v M)(hM:M.length<=1000)(hr:∀r,r∈M->0<r.length/\r.length<=1000/\∀x,x∈r->Hq K x)(hK:K<=1800):
  cE P L [4,13,14,15] ET (fun d st=>∃(i:Nat) (rows:List AV),i+d=M.length/\((M.take i).any fun r=>r.any df)=ydz/\c7 (aY gV) rows (M.take i)/\st=⟨[(4,oV 0 i),(13,v),(14,aa M.length),(15,aa i)],oH 0 1 rows [] i,oC 0 i,0⟩) (fun ex s'=>∃tm ct hp,s'=⟨tm,hp,ct,0⟩/\((ex=.ret/\(M.any fun r=>r.any df)=ydy/\ai tm 2=.aj/\ai tm 3=aa 4)\/(ex=.exit 0/\(M.any fun r=>r.any df)=ydz/\∃rows,hp=oH 0 1 rows [] M.length/\c7 (aY gV) rows M/\bD tm [4]=[(4,oV 0 M.length)]))):=by
 apply cI;rintro d st ⟨i,rows,hid,hN,hR,rfl⟩;by_cases hi:i<M.length
 .obtain ⟨ra,rest,jm,e0⟩:=hv.bj hi;obtain⟨h0,h1,h2⟩:=hr _ (xq hi);have key:=ayM h hv.pu jm h1 h2 hK (i:=i) (n:=M.length) (rows:=rows);have wi:IntKind.wrap .i64 ((i:Int)+1)=((i+1:Nat):Int):=wrap64 (by omega) (by omega);have eD:(i:Int)<M.length:=by omega
  have dn:bT (aa i)=Gr i:=rfl;have lR:=hR.len;rw[yP,xo (by omega)] at lR;have Fg:∀ex cs,M[i].any df=ydz->c7 gV cs M[i]->((M.take (i+1)).any fun r=>r.any df)=ydz/\c7 (aY gV) (rows++[.au ex M[i].length cs]) (M.take (i+1)):=fun ex cs q1 q2=>by
   rw[Pd hi,hN,q1,xn hi];exact⟨rfl,hR.snoc (rJ ex q2)⟩
  have fp:M[i].any df=ydy->(M.any fun r=>r.any df)=ydy:=fun q=>P5 hi q
  generalize M[i]=l at*
  obtain⟨n',dZ⟩:∃n',l.length=n'+1:=⟨l.length-1,by omega⟩;have hm:∀ct,zJ ct 1 4 [.an .f32 0] (Gr (n'+1)) (Gr (n'+1))=Gr (.ay ct 0 (n'+1),.cells ydy ydy ydy 1 (yk (n'+1) [AV.an .f32 0]).flatten):=fun ct=>EY (by omega) (by omega) rfl rfl
  have mN:(yk (n'+1) [AV.an .f32 0]).flatten.length=n'+1:=by rw[adQ];simp
  have asn:bT (aa (n'+1:Nat))=Gr (n'+1):=rfl;rw[dZ] at key Fg
  cases hb:l.any df with
  | true=>
   right
   cases i
   all_goals
    simp only[oV,oH,oC,fH] at key ⊢;simp only[go_sem,ya,yb,ET,eD,dn,e0,jm.len,dZ];generalize hQ:D P L (.loop _ BB) _=Q;obtain⟨ex,st,rfl,tm,ct,hp,rfl,hh⟩:=bg hQ (key (n'+1)) ⟨0,[],by omega,by simp,trivial,by simp only[go_sem,ya,yb,aq,aC hv.pu,aC jm.pu]<;>rfl⟩
    rcases hh with ⟨rfl,_,t2,t3⟩ | ⟨_,hf,_⟩
    .simp only [go_sem];exact⟨_,_,rfl,by simp,_,_,_,rfl,.inl ⟨rfl,fp hb,t2,t3⟩⟩
    .rw [hb] at hf;cases hf
  | false=>
   left
   have iQ:=fun (hp:Hp) (ct:Nat) (e:Bool) (k:Nat) (cs:List AV) (hg:ak hp 0=Gr (.cells ydy ydy ydz 1 rows))=>ff (ct:=ct) (by':=24) (new:=[.au e k cs]) (m:=1) (n:=i) hg (by rw[lR,yh]) (by omega) (by omega) (by decide) rfl
   have ia:∀(tm:Env) (e:Bool) (k:Nat) (cs:List AV),lD tm [AV.aj] 0 1 [.au e k cs] []=Gr [.au e k cs]:=fun _ _ _ _=>rfl
   have iq:∀(cf pu ex:Bool) (a:AV),pG 0 1 1 (Gr (.cells cf pu ex 1 [a]))=Gr (1,[a]):=fun _ _ _ _=>rfl
   cases i with
   | zero=>
    simp only[oV,oH,oC,fH] at key ⊢;simp only[go_sem,ya,yb,ET,eD,dn,e0,jm.len,dZ];generalize hQ:D P L (.loop _ BB) _=Q;obtain⟨ex,st,rfl,tm,ct,hp,rfl,hh⟩:=bg hQ (key (n'+1)) ⟨0,[],by omega,by simp,trivial,by simp only[go_sem,ya,aq,aC hv.pu,aC jm.pu]<;>rfl⟩
    rcases hh with ⟨_,hf,_⟩ | ⟨rfl,_,cs,rfl,dY,cY⟩
    .rw [hb] at hf;cases hf
    .obtain ⟨c1,c2⟩:=VJ dY;have oL:=dY.len;rw[dZ] at oL;have hc:=fun (hp:Hp) (ct id:Nat) (hg:ak hp id=Gr (.cells ydy ydy ydy 1 (yk (n'+1) [AV.an .f32 0]).flatten))=>afe (ct:=ct) hg mN oL c1 c2
     have cL:=fun hp:Hp=>gD (hp:=hp) (k:=n'+1) (sz:=1) (cs:=cs) ydy (by rw[oL,yh]) (by decide)
     obtain⟨q1,q2⟩:=Fg ydy cs hb dY;have bN:bB [4,6,7,13,14,15] ⟨tm,[(0,.cells ydy ydy ydz 1 cs)],ct,0⟩=⟨[(4,.aj),(6,ra),(7,.ay 0 0 (n'+1)),(13,v),(14,aa M.length),(15,aa (0:Nat))],[(0,.cells ydy ydy ydz 1 cs)],1,0⟩:=by
      rw[kJ (c':=ct) (tm':=[(4,.aj),(6,ra),(7,.ay 0 0 (n'+1)),(13,v),(14,aa M.length),(15,aa (0:Nat))]) (by rw[cY];rfl)]
      simp only[go_sem,ya,yb,aq,aC hv.pu,aC jm.pu]<;>rfl
     simp only[go_sem,ya,yb,xv,yG,yq,yh,bN,jm.len,dZ,asn,hm,af3,kK,aeV (sz:=1) (n:=n'+1) (by rw[oL,yh]),hc,cL,ia,eQ,kL,iq,gL,wi];have iV:rows=[]:=yD lR;subst iV;exact⟨_,d-1,rfl,by omega,1,[.au ydy (n'+1) cs],by omega,q1,q2,by simp only[go_sem,ya,yb,aq,aC hv.pu]<;>rfl⟩
   | succ i=>
    simp only[oV,oH,oC,fH] at key ⊢;simp only[go_sem,ya,yb,ET,eD,dn,e0,jm.len,dZ];generalize hQ:D P L (.loop _ BB) _=Q;obtain⟨ex,st,rfl,tm,ct,hp,rfl,hh⟩:=bg hQ (key (n'+1)) ⟨0,[],by omega,by simp,trivial,by simp only[go_sem,ya,yb,aq,aC hv.pu,aC jm.pu]<;>rfl⟩
    rcases hh with ⟨_,hf,_⟩ | ⟨rfl,_,cs,rfl,dY,cY⟩
    .rw [hb] at hf;cases hf
    .obtain ⟨c1,c2⟩:=VJ dY;have oL:=dY.len;rw[dZ] at oL;have hc:=fun (hp:Hp) (ct id:Nat) (hg:ak hp id=Gr (.cells ydy ydy ydy 1 (yk (n'+1) [AV.an .f32 0]).flatten))=>afe (ct:=ct) hg mN oL c1 c2
     have cL:=fun hp:Hp=>gD (hp:=hp) (k:=n'+1) (sz:=1) (cs:=cs) ydy (by rw[oL,yh]) (by decide)
     obtain⟨q1,q2⟩:=Fg ydy cs hb dY;have bN:bB [4,6,7,13,14,15] ⟨tm,[(1,.cells ydy ydy ydz 1 cs),(0,.cells ydy ydy ydz 1 rows)],ct,0⟩=⟨[(4,.ay 0 0 (i+1)),(6,ra),(7,.ay 1 0 (n'+1)),(13,v),(14,aa M.length),(15,aa (i+1:Nat))],[(1,.cells ydy ydy ydz 1 cs),(0,.cells ydy ydy ydz 1 rows)],2,0⟩:=by
      rw[kJ (c':=ct) (tm':=[(4,.ay 0 0 (i+1)),(6,ra),(7,.ay 1 0 (n'+1)),(13,v),(14,aa M.length),(15,aa (i+1:Nat))]) (by rw[cY];rfl)]
      simp only[go_sem,ya,yb,aq,aC hv.pu,aC jm.pu]<;>rfl
     simp only[go_sem,ya,yb,yh,bN,jm.len,dZ,asn,hm,af3,kK,aeV (sz:=1) (n:=n'+1) (by rw[oL,yh]),hc,cL,ia,eQ,kL,iq,iQ,wi];exact⟨_,d-1,rfl,by omega,i+1+1,rows++[.au ydy (n'+1) cs],by omega,q1,q2,by simp only[go_sem,ya,yb,aq,aC hv.pu]<;>rfl⟩
 .right
  have JE:i=M.length:=by omega
  subst JE;rw[yK (yx _)] at hN hR;simp only[go_sem,ya,ET,show ¬(M.length:Int)<M.length by omega];exact⟨_,_,rfl,by simp,_,_,_,rfl,.inr ⟨rfl,hN,rows,rfl,hR,by simp only[go_sem,ya]<;>rfl⟩⟩
def ajy(h:Fto P L)(hv:aY nt v M)(h0:0<M.length)(hM:M.length<=1000)(hr:∀r,r∈M->0<r.length/\r.length<=1000/\∀x,x∈r->Hq K x)(hK:K<=1800):
  ((M.any fun r=>r.any df)=ydy->ab P L 675 [v] (.av [.aj,aa 4]))/\((M.any fun r=>r.any df)=ydz->∃rows,ab P L 675 [v] (.av [.cR ydz 1 M.length rows,aa 0])/\aY (aY gV) (.au ydz M.length rows) M):=by
 have key:=ayN h hv hM hr hK;obtain⟨n,hn⟩:∃n,M.length=n+1:=⟨M.length-1,by omega⟩;unfold ab;rw[aD h.aDQ];simp only[go_sem,ya,XJ,hv.len];generalize hQ:D P L (.loop _ ET) _=Q;obtain⟨ex,st,rfl,tm,ct,hp,rfl,hh⟩:=bg hQ (key M.length) ⟨0,[],by omega,by simp,trivial,by simp only[go_sem,ya,aq,oV,oH,oC,aC hv.pu]<;>rfl⟩
 rcases hh with ⟨rfl,q,t2,t3⟩ | ⟨rfl,q,rows,rfl,hR,cY⟩
 .refine ⟨fun _=>?_,fun q'=>by rw[q] at q';cases q'⟩;simp only[go_sem,t2,t3]
 .refine ⟨fun q'=>(by rw[q] at q';cases q'),fun _=>⟨rows,?_,rJ ydz hR⟩⟩;have lR:=hR.len;rw[hn] at cY lR ⊢;have bN:bB [4] ⟨tm,oH 0 1 rows [] (n+1),ct,0⟩=⟨[(4,.ay 0 0 (n+1))],[(0,.cells ydy ydy ydz 1 rows)],1,0⟩:=by
   rw[kJ (c':=ct) (tm':=[(4,.ay 0 0 (n+1))]) (by rw[cY];rfl)]
   simp only[go_sem,yb,aq,oH]<;>rfl
  simp only[go_sem,ya,bN];exact aa0 rfl (by rw[lR,yh]) (by decide)
end
end
end VE
end
section
namespace VE
open Go (IntKind)
section
variable {v:AV}{M:List (List Rat)}
section
variable {P:aF}{L:Lib}
def ayO(h:Fz P L){ra:AV}{l:List Rat}{i:Nat}{rest:List AV}{rows:List AV}(pv:aV v=ydy)(e0:jb 1 i v=Gr (.bA (ra::rest)))(ha:Af ra (l.map RT))(hl:l.length<=1000)(kl:∀x,x∈l->Hq 2600 x):
  cE P L [0,4,5,6,7] BC (fun d st=>∃(c:Nat) (cs:List AV),c+d=l.length/\(l.take c).any df=ydz/\c7 gV cs (l.take c)/\st=⟨[(0,v),(4,oV 0 i),(5,aa i),(6,oV (oC 0 i) c),(7,aa c)],fH i c rows cs,oC (oC 0 i) c,0⟩) (fun ex s'=>∃tm ct hp,s'=⟨tm,hp,ct,0⟩/\((ex=.ret/\l.any df=ydy/\ai tm 2=.aj/\ai tm 3=aa 4)\/(ex=.exit 2/\l.any df=ydz/\∃cs,hp=fH i l.length rows cs/\c7 gV cs l/\bD tm [0,4,5,6]=[(0,v),(4,oV 0 i),(5,aa i),(6,oV (oC 0 i) l.length)]))):=by
 apply cI;rintro d st ⟨c,cs,hcd,hN,hA,rfl⟩;have hlen:(l.map RT).length=l.length:=by simp
 have dn:bT (aa i)=Gr i:=rfl;by_cases hc:c<l.length
 .have e1:=ha.bj (i:=c) (by rw[hlen];exact hc)
  rw[vz] at e1;obtain⟨e2,e3⟩:=aAK h (kl _ (xq hc));have kW:(c:Int)<(l.length:Nat):=by omega
  have Ah:bT (aa c)=Gr c:=rfl;have wc:IntKind.wrap .i64 ((c:Int)+1)=((c+1:Nat):Int):=wrap64 (by omega) (by omega)
  cases hb:df l[c] with
  | true=>
   right
   have e2:=e2 hb;unfold ab at e2;simp only[go_sem,ya,BC,dn,e0,ha.len,hlen,kW,Ah,e1,e2,fU,fS,fT,yY];exact⟨_,_,rfl,by simp,_,_,_,rfl,.inl ⟨rfl,P5 hc hb,by simp only[go_sem,ya],by simp only[go_sem]⟩⟩
  | false=>
   left
   obtain⟨x,NS,e5⟩:=e3 hb;have Y1:=NS;obtain⟨b,rfl⟩:=NS.ex;unfold ab at e5;have ia:∀tm:Env,lD tm [AV.an .f32 0] 0 1 [.an .f32 b] []=Gr [.an .f32 b]:=fun _=>rfl
   have iq:∀(cf pu ex:Bool) (a:AV),pG 0 1 1 (Gr (.cells cf pu ex 1 [a]))=Gr (1,[a]):=fun _ _ _ _=>rfl
   have dX:∀b:Nat,cellsOf (.an .f32 b)=[.an .f32 b]:=fun _=>rfl
   have gI:∀b:Nat,bH (.an .f32 b)=.an .f32 b:=fun _=>rfl
   have NT:(l.take (c+1)).any df=ydz:=by rw[Pd hc,hN,hb];rfl
   have Ei:c7 gV (cs++[.an .f32 b]) (l.take (c+1)):=by
    rw[xn hc];exact hA.snoc Y1
   have lc:=hA.len;rw[yP,xo (by omega)] at lc
   cases c with
   | zero=>
    have dY:cs=[]:=yD (by omega);subst dY;cases i
    all_goals
     simp only[oV,oH,oC,fH]
     simp only[go_sem,ya,yb,yh,BC,dn,e0,ha.len,hlen,kW,Ah,e1,e5,fU,fS,fT,yO,gI,dX,ia,eQ,kL,kK,iq,gL (sz:=1) (by':=4) (new:=[AV.an .f32 b]) (m:=1) (by decide) (by decide) (by decide) (by decide),wc];refine⟨_,d-1,rfl,by omega,1,[.an .f32 b],by omega,NT,Ei,?_⟩;simp only[go_sem,ya,yb,aq,aC pv]<;>rfl
   | succ c=>
    cases i
    all_goals
     simp only[oV,oH,oC,fH];have iQ:=fun (hp:Hp) (ct id:Nat) (hg:ak hp id=Gr (.cells ydy ydy ydz 1 cs))=>ff (ct:=ct) (by':=4) (new:=[AV.an .f32 b]) (m:=1) (n:=c+1) hg (by rw[lc,yh]) (by omega) (by omega) (by decide) rfl
     simp only[go_sem,ya,yb,yh,BC,dn,e0,ha.len,hlen,kW,Ah,e1,e5,fU,fS,fT,yO,gI,dX,ia,eQ,kL,kK,iq,iQ,wc];refine⟨_,d-1,rfl,by omega,c+1+1,cs++[.an .f32 b],by omega,NT,Ei,?_⟩;simp only[go_sem,ya,aq,aC pv]<;>rfl
 .right
  have dX:c=l.length:=by omega
  subst dX;rw[yK (yx _)] at hN hA;simp only[go_sem,ya,BC,dn,e0,ha.len,hlen,show ¬(l.length:Int)<l.length by omega];exact⟨_,_,rfl,by simp,_,_,_,rfl,.inr ⟨rfl,hN,cs,rfl,hA,by simp only[go_sem,ya]<;>rfl⟩⟩
def ayP(h:Fz P L)(hv:aY Af v (M.map fun r=>r.map RT))(hM:M.length<=1000)(hr:∀r,r∈M->0<r.length/\r.length<=1000/\∀x,x∈r->Hq 2600 x):
  cE P L [0,4,5] EU (fun d st=>∃(i:Nat) (rows:List AV),i+d=M.length/\((M.take i).any fun r=>r.any df)=ydz/\c7 (aY gV) rows (M.take i)/\st=⟨[(0,v),(4,oV 0 i),(5,aa i)],oH 0 1 rows [] i,oC 0 i,0⟩) (fun ex s'=>∃tm ct hp,s'=⟨tm,hp,ct,0⟩/\((ex=.ret/\(M.any fun r=>r.any df)=ydy/\ai tm 2=.aj/\ai tm 3=aa 4)\/(ex=.exit 0/\(M.any fun r=>r.any df)=ydz/\∃rows,hp=oH 0 1 rows [] M.length/\c7 (aY gV) rows M/\bD tm [4]=[(4,oV 0 M.length)]))):=by
 have oM:(M.map fun r=>r.map RT).length=M.length:=by simp
 apply cI;rintro d st ⟨i,rows,hid,hN,hR,rfl⟩;by_cases hi:i<M.length
 .obtain ⟨ra,rest,jm,e0⟩:=hv.bj (i:=i) (by rw[oM];exact hi)
  rw[vz] at jm;obtain⟨h0,h1,h2⟩:=hr _ (xq hi);have key:=ayO h hv.pu e0 jm h1 h2 (rows:=rows);have wi:IntKind.wrap .i64 ((i:Int)+1)=((i+1:Nat):Int):=wrap64 (by omega) (by omega);have eD:(i:Int)<M.length:=by omega
  have lR:=hR.len;rw[yP,xo (by omega)] at lR;have Fg:∀ex cs,M[i].any df=ydz->c7 gV cs M[i]->((M.take (i+1)).any fun r=>r.any df)=ydz/\c7 (aY gV) (rows++[.au ex M[i].length cs]) (M.take (i+1)):=fun ex cs q1 q2=>by
   rw[Pd hi,hN,q1,xn hi];exact⟨rfl,hR.snoc (rJ ex q2)⟩
  have fp:M[i].any df=ydy->(M.any fun r=>r.any df)=ydy:=fun q=>P5 hi q
  generalize M[i]=l at*
  obtain⟨n',dZ⟩:∃n',l.length=n'+1:=⟨l.length-1,by omega⟩;rw[dZ] at key Fg
  cases hb:l.any df with
  | true=>
   right
   cases i
   all_goals
    simp only[oV,oH,oC,fH] at key ⊢;simp only[go_sem,ya,yb,EU,hv.len,oM,eD];generalize hQ:D P L (.loop _ BC) _=Q;obtain⟨ex,st,rfl,tm,ct,hp,rfl,hh⟩:=bg hQ (key (n'+1)) ⟨0,[],by omega,by simp,trivial,by simp only[go_sem,ya,yb,aq,aC hv.pu]<;>rfl⟩
    rcases hh with ⟨rfl,_,t2,t3⟩ | ⟨_,hf,_⟩
    .simp only [go_sem];exact⟨_,_,rfl,by simp,_,_,_,rfl,.inl ⟨rfl,fp hb,t2,t3⟩⟩
    .rw [hb] at hf;cases hf
  | false=>
   left
   have iQ:=fun (hp:Hp) (ct:Nat) (e:Bool) (k:Nat) (cs:List AV) (hg:ak hp 0=Gr (.cells ydy ydy ydz 1 rows))=>ff (ct:=ct) (by':=24) (new:=[.au e k cs]) (m:=1) (n:=i) hg (by rw[lR,yh]) (by omega) (by omega) (by decide) rfl
   have ia:∀(tm:Env) (e:Bool) (k:Nat) (cs:List AV),lD tm [AV.aj] 0 1 [.au e k cs] []=Gr [.au e k cs]:=fun _ _ _ _=>rfl
   have iq:∀(cf pu ex:Bool) (a:AV),pG 0 1 1 (Gr (.cells cf pu ex 1 [a]))=Gr (1,[a]):=fun _ _ _ _=>rfl
   cases i with
   | zero=>
    simp only[oV,oH,oC,fH] at key ⊢;simp only[go_sem,ya,yb,EU,hv.len,oM,eD];generalize hQ:D P L (.loop _ BC) _=Q;obtain⟨ex,st,rfl,tm,ct,hp,rfl,hh⟩:=bg hQ (key (n'+1)) ⟨0,[],by omega,by simp,trivial,by simp only[go_sem,ya,aq,aC hv.pu]<;>rfl⟩
    rcases hh with ⟨_,hf,_⟩ | ⟨rfl,_,cs,rfl,dY,cY⟩
    .rw [hb] at hf;cases hf
    .have oL:=dY.len;rw[dZ] at oL;have cL:=fun hp:Hp=>gD (hp:=hp) (k:=n'+1) (sz:=1) (cs:=cs) ydz (by rw[oL,yh]) (by decide)
     obtain⟨q1,q2⟩:=Fg ydz cs hb dY;have bN:bB [0,4,5,6] ⟨tm,[(0,.cells ydy ydy ydz 1 cs)],ct,0⟩=⟨[(0,v),(4,.aj),(5,aa (0:Nat)),(6,.ay 0 0 (n'+1))],[(0,.cells ydy ydy ydz 1 cs)],1,0⟩:=by
      rw[kJ (c':=ct) (tm':=[(0,v),(4,.aj),(5,aa (0:Nat)),(6,.ay 0 0 (n'+1))]) (by rw[cY];rfl)]
      simp only[go_sem,ya,yb,aq,aC hv.pu]<;>rfl
     simp only[go_sem,ya,yb,xv,yG,yq,yh,bN,cL,ia,eQ,kL,kK,iq,gL,wi];have iV:rows=[]:=yD lR;subst iV;exact⟨_,d-1,rfl,by omega,1,[.au ydz (n'+1) cs],by omega,q1,q2,by simp only[go_sem,ya,yb,aq,aC hv.pu]<;>rfl⟩
   | succ i=>
    simp only[oV,oH,oC,fH] at key ⊢;simp only[go_sem,ya,yb,EU,hv.len,oM,eD];generalize hQ:D P L (.loop _ BC) _=Q;obtain⟨ex,st,rfl,tm,ct,hp,rfl,hh⟩:=bg hQ (key (n'+1)) ⟨0,[],by omega,by simp,trivial,by simp only[go_sem,ya,yb,aq,aC hv.pu]<;>rfl⟩
    rcases hh with ⟨_,hf,_⟩ | ⟨rfl,_,cs,rfl,dY,cY⟩
    .rw [hb] at hf;cases hf
    .have oL:=dY.len;rw[dZ] at oL;have cL:=fun hp:Hp=>gD (hp:=hp) (k:=n'+1) (sz:=1) (cs:=cs) ydz (by rw[oL,yh]) (by decide)
     obtain⟨q1,q2⟩:=Fg ydz cs hb dY;have bN:bB [0,4,5,6] ⟨tm,[(1,.cells ydy ydy ydz 1 cs),(0,.cells ydy ydy ydz 1 rows)],ct,0⟩=⟨[(0,v),(4,.ay 0 0 (i+1)),(5,aa (i+1:Nat)),(6,.ay 1 0 (n'+1))],[(1,.cells ydy ydy ydz 1 cs),(0,.cells ydy ydy ydz 1 rows)],2,0⟩:=by
      rw[kJ (c':=ct) (tm':=[(0,v),(4,.ay 0 0 (i+1)),(5,aa (i+1:Nat)),(6,.ay 1 0 (n'+1))]) (by rw[cY];rfl)]
      simp only[go_sem,ya,yb,aq,aC hv.pu]<;>rfl
     simp only[go_sem,ya,yb,yh,bN,cL,ia,eQ,kL,kK,iq,iQ,wi];exact⟨_,d-1,rfl,by omega,i+1+1,rows++[.au ydz (n'+1) cs],by omega,q1,q2,by simp only[go_sem,ya,yb,aq,aC hv.pu]<;>rfl⟩
 .right
  have JE:i=M.length:=by omega
  subst JE;rw[yK (yx _)] at hN hR;simp only[go_sem,ya,EU,hv.len,oM,show ¬(M.length:Int)<M.length by omega];exact⟨_,_,rfl,by simp,_,_,_,rfl,.inr ⟨rfl,hN,rows,rfl,hR,by simp only[go_sem,ya]<;>rfl⟩⟩
def ajz(h:Fz P L)(Sk:Has P L 684 Ry)(hv:aY Af v (M.map fun r=>r.map RT))(h0:0<M.length)(hM:M.length<=1000)(hr:∀r,r∈M->0<r.length/\r.length<=1000/\∀x,x∈r->Hq 2600 x):
  ((M.any fun r=>r.any df)=ydy->ab P L 684 [v] (.av [.aj,aa 4]))/\((M.any fun r=>r.any df)=ydz->∃rows,ab P L 684 [v] (.av [.cR ydz 1 M.length rows,aa 0])/\aY (aY gV) (.au ydz M.length rows) M):=by
 have key:=ayP h hv hM hr;obtain⟨n,hn⟩:∃n,M.length=n+1:=⟨M.length-1,by omega⟩;unfold ab;rw[aD Sk];simp only[go_sem,Ry];generalize hQ:D P L (.loop _ EU) _=Q;obtain⟨ex,st,rfl,tm,ct,hp,rfl,hh⟩:=bg hQ (key M.length) ⟨0,[],by omega,by simp,trivial,by simp only[go_sem,ya,aq,oV,oH,oC,aC hv.pu]<;>rfl⟩
 rcases hh with ⟨rfl,q,t2,t3⟩ | ⟨rfl,q,rows,rfl,hR,cY⟩
 .refine ⟨fun _=>?_,fun q'=>by rw[q] at q';cases q'⟩;simp only[go_sem,t2,t3]
 .refine ⟨fun q'=>(by rw[q] at q';cases q'),fun _=>⟨rows,?_,rJ ydz hR⟩⟩;have lR:=hR.len;rw[hn] at cY lR ⊢;have bN:bB [4] ⟨tm,oH 0 1 rows [] (n+1),ct,0⟩=⟨[(4,.ay 0 0 (n+1))],[(0,.cells ydy ydy ydz 1 rows)],1,0⟩:=by
   rw[kJ (c':=ct) (tm':=[(4,.ay 0 0 (n+1))]) (by rw[cY];rfl)]
   simp only[go_sem,yb,aq,oH]<;>rfl
  simp only[go_sem,ya,bN];exact aa0 rfl (by rw[lR,yh]) (by decide)
end
end
end VE
end
section
namespace VE
open Go (IntKind)
section
variable {rows:List AV}{W c i m n r:Nat}
noncomputable def jP(Fs:List (List (List Nat)))(c r:Nat):Nat->Rat
 | 0=>0
 | t+1=>jP Fs c r t+Bj (Fs.getD t []) c r
noncomputable def Ib(Fs:List (List (List Nat)))(c r:Nat):Rat:=jP Fs c r Fs.length/(((Fs.length:Nat):Int):Rat)
noncomputable def gO(Fs:List (List (List Nat)))(W r:Nat):List Rat:=(wR W).map fun c=>Ib Fs c r
noncomputable def jh(Fs:List (List (List Nat)))(W H:Nat):List (List Rat):=(wR H).map fun r=>gO Fs W r
def oP(Fs:List (List (List Nat)))(W r:Nat):(gO Fs W r).length=W:=by simp[gO]
def GI(Fs:List (List (List Nat)))(W H:Nat):(jh Fs W H).length=H:=by simp[jh]
def ac4{Fs:List (List (List Nat))}(h:c<W):(gO Fs W r).take (c+1)=(gO Fs W r).take c++[Ib Fs c r]:=by
 rw[xn (by rw[oP];exact h)];simp[gO]
def apE{Fs:List (List (List Nat))}{H:Nat}(h:r<H):(jh Fs W H).take (r+1)=(jh Fs W H).take r++[gO Fs W r]:=by
 rw[xn (by rw[GI];exact h)];simp[jh]
def zD{α:Type}{l:List α}(d:α)(h:i<l.length):l.getD i d=l[i]:=by
 rw[y9,xu h,vh]
def zO(Fs:List (List (List Nat)))(n m:Nat):Prop:=∀F,F∈Fs->Gl F n m
def Hl{Fs:List (List (List Nat))}{n m c r:Nat}(h:zO Fs n m)(hc:c<m)(hr:r<n):∀t,t<=Fs.length->Hq (2+t*430) (jP Fs c r t)
 | 0,_=>YA.mono (by omega)
 | t+1,ht=>by
  have:=(Hl h hc hr t (by omega)).add ((h _ (xq (show t<Fs.length by omega))).H hr hc)
  show Hq _ (jP Fs c r t+Bj (Fs.getD t []) c r)
  rw[zD [] (show t<Fs.length by omega)];exact this.mono (by omega)
def Vc(h:n<=4):Hq 3 (((n:Nat):Int):Rat):=⟨by rw[vI];unfold Bd;rw[xG];omega,by rw[vt];unfold Bd;decide⟩
def af6{Fs:List (List (List Nat))}(h:zO Fs n m)(hc:c<m)(hr:r<n)(h4:Fs.length<=4):Hq 1725 (Ib Fs c r):=
 ((Hl h hc hr Fs.length (yx _)).div (Vc h4)).mono (by omega)
structure Avg(P:aF)(L:Lib):Prop extends Ctd P L,Fto P L where
 Y2:Has P L 668 Mk
 Y3:Has P L 715 RD
section
variable {P:aF}{L:Lib}
def ayQ(h:Ctd P L){v:AV}{Fs:List (List (List Nat))}(hv:aY (aY cT) v Fs)(hF:zO Fs n m)(h4:Fs.length<=4){N:Nat}(hi:i<n)(hc:c<m){cs:List AV}:
  cE P L [1,8,9,10,11,12,40,41,50,51,55,56,57] G3 (fun d st=>∃(t:Nat) (s1 s2 s3 s4:AV),st=⟨[(1,v),(8,oV 0 i),(9,aa i),(10,oV (oC 0 i) c),(11,aa c),(12,.ptr (oC (oC 0 i) c) 0),(40,aa N),(41,aa i),(50,aa W),(51,aa c),(55,v),(56,aa Fs.length),(57,aa t)],(oC (oC 0 i) c,.cells ydy ydy ydy 4 [s1,s2,s3,s4])::pH i c rows cs,oC (oC 0 i) c+1,0⟩/\t+d=Fs.length/\bW (.agg [s1,s2,s3,s4]) (jP Fs c i t)) (fun ex s'=>∃tm ct s1 s2 s3 s4,s'=⟨tm,(oC (oC 0 i) c,.cells ydy ydy ydy 4 [s1,s2,s3,s4])::pH i c rows cs,ct,0⟩/\ex=.exit 4/\bW (.agg [s1,s2,s3,s4]) (jP Fs c i Fs.length)/\ai tm 1=v/\ai tm 8=oV 0 i/\ai tm 9=aa i/\ai tm 10=oV (oC 0 i) c/\ai tm 12=.ptr (oC (oC 0 i) c) 0/\ai tm 40=aa N/\ai tm 41=aa i/\ai tm 50=aa W/\ai tm 51=aa c):=by
 apply cI;rintro d st ⟨t,s1,s2,s3,s4,rfl,htd,hs⟩;by_cases ht:t<Fs.length
 .left
  obtain⟨fr,rest,eh,e0⟩:=hv.bj ht;have NU:=hF _ (xq ht);obtain⟨bQ,kX,e3,f1,f2⟩:=NU.at hi hc;obtain⟨w1,ahI,pK,e1⟩:=eh.bj bQ;have pK:cF w1 (dQ (Fs[t])[i]):=pK;have e2:=pK.bj (i:=c) (by simpa using kX);rw[Pa kX] at e2;obtain⟨u,e4,hu⟩:=aAE h.toExc f2 f1;rw[<-e3] at hu;have ku:=NU.H hi hc;have ks:=Hl hF hc hi t (by omega);obtain⟨z,e5,hz⟩:=m74 h.toCen.toMom.toFr' hs hu (K:=1800) (ks.mono (by omega)) (ku.mono (by decide)) (by decide);have cK:bW z (jP Fs c i (t+1)):=by
   show bW z (jP Fs c i t+Bj (Fs.getD t []) c i)
   rw[zD [] ht];exact hz
  have gs:=hs.f4;obtain⟨u1,u2,u3,u4,rfl,gu⟩:=hu.gen;obtain⟨q1,q2,q3,q4,rfl,gz⟩:=hz.gen;have wt:IntKind.wrap .i64 ((t:Int)+1)=((t+1:Nat):Int):=wrap64 (by omega) (by omega);have dn:bT (aa i)=Gr i:=rfl;have Ah:bT (aa c)=Gr c:=rfl;have ast:bT (aa t)=Gr t:=rfl;unfold ab at e4 e5;cases i<;>cases c
  all_goals
   simp only[oV,oH,oC,pH];simp only[go_sem,ya,yb,G3,show (t:Int)<Fs.length by omega,dn,Ah,ast,e0,e1,e2,mX,yg,gs.ah,gu.ah,zu,e4,e5,bh,gz.st,wt];refine⟨_,d-1,rfl,by omega,t+1,q1,q2,q3,q4,?_,by omega,cK⟩;simp only[go_sem,ya,yb,aq,aC hv.pu]<;>rfl
 .right
  have:t=Fs.length:=by omega
  subst this;cases i<;>cases c
  all_goals
   simp only[oV,oH,oC,pH];simp only[go_sem,ya,yb,G3,show ¬(Fs.length:Int)<Fs.length by omega,yu];exact⟨_,_,rfl,by simp,_,_,s1,s2,s3,s4,rfl,rfl,hs,by simp only[go_sem,ya],by simp only[go_sem,ya],by simp only[go_sem,ya],by simp only[go_sem,ya],by simp only[go_sem,ya],by simp only[go_sem,ya],by simp only[go_sem,ya],by simp only[go_sem,ya],by simp only[go_sem,ya]⟩
def ayR(h:Ctd P L){v:AV}{Fs:List (List (List Nat))}(hv:aY (aY cT) v Fs)(hF:zO Fs n m)(h0:0<Fs.length)(h4:Fs.length<=4){N:Nat}(hi:i<n)(hm:m<=64):
  cE P L [1,8,9,10,40,41,50,51] ES (fun d st=>∃(c:Nat) (cs:List AV),st=⟨[(1,v),(8,oV 0 i),(9,aa i),(10,oV (oC 0 i) c),(40,aa N),(41,aa i),(50,aa m),(51,aa c)],pH i c rows cs,oC (oC 0 i) c,0⟩/\c+d=m/\QL cs ((gO Fs m i).take c)) (fun ex s'=>∃tm ct cs,s'=⟨tm,pH i m rows cs,ct,0⟩/\ex=.exit 2/\QL cs (gO Fs m i)/\ai tm 1=v/\ai tm 8=oV 0 i/\ai tm 10=oV (oC 0 i) m/\ai tm 40=aa N/\ai tm 41=aa i):=by
 apply cI;rintro d st ⟨c,cs,rfl,hcd,hQ⟩;by_cases hc:c<m
 .left
  have f0:=ayQ h hv hF h4 hi hc (N:=N) (W:=m) (rows:=rows) (cs:=cs) Fs.length;obtain⟨zero,e1,hz⟩:=D7 h.toCen.toMom.toFr' (z:=0) (by decide) (by decide);have cK:bW zero (jP Fs c i 0):=by rw[jP];simpa using hz
  obtain⟨v1,v2,v3,v4,rfl,gz⟩:=cK.gen;have e2:bO P L (D P L) 69 [.int .i64 0]=Gr (.agg [v1,v2,v3,v4]):=e1;obtain⟨nn,e3,sM⟩:=D7 h.toCen.toMom.toFr' (z:=(Fs.length:Nat)) (by omega) (by omega);obtain⟨n1,n2,n3,n4,rfl,gn⟩:=sM.gen;have wc:IntKind.wrap .i64 ((c:Int)+1)=((c+1:Nat):Int):=wrap64 (by omega) (by omega);have lq:=hQ.len;rw[yP,oP,xo (by omega)] at lq;have kW:(c:Int)<m:=by omega
  have bU:(((Fs.length:Nat):Int):Rat)≠0:=by
   intro q
   have:((Fs.length:Nat):Int)=0:=by exact_mod_cast q
   omega
  have end_:∀(s1 s2 s3 s4:AV),bW (.agg [s1,s2,s3,s4]) (jP Fs c i Fs.length)->F4 s1 s2 s3 s4/\∃x1 x2 x3 x4,bO P L (D P L) 70 [.agg [s1,s2,s3,s4],.agg [n1,n2,n3,n4]]=Gr (.agg [x1,x2,x3,x4])/\F4 x1 x2 x3 x4/\QL (cs++[x1,x2,x3,x4]) ((gO Fs m i).take (c+1))/\(∀q,lD q z4 0 4 [x1,x2,x3,x4] []=fill q [x1,x2,x3,x4] [])/\aV x1=ydy/\aV x2=ydy/\aV x3=ydy/\aV x4=ydy:=fun s1 s2 s3 s4 q=>by
   obtain⟨x,ex,hx⟩:=m70 h.toCen.toMom.toFr' q sM bU (K:=1800) ((Hl hF hc hi _ (yx _)).mono (by omega)) ((Vc h4).mono (by decide)) (by decide);have kD:=hx;obtain⟨x1,x2,x3,x4,rfl,g⟩:=hx.gen;obtain⟨p1,p2,p3,p4⟩:=g.pus;exact⟨q.f4,x1,x2,x3,x4,ex,g,by rw[ac4 hc];exact hQ.snoc kD,fun _=>axX g.o1 g.o2 g.o3 g.o4,p1,p2,p3,p4⟩
  have nD:∀st,bB [1,8,9,10,11,12,40,41,50,51,55,56,57] st=⟨[(1,v),(8,oV 0 i),(9,aa i),(10,oV (oC 0 i) c),(11,aa c),(12,.ptr (oC (oC 0 i) c) 0),(40,aa N),(41,aa i),(50,aa m),(51,aa c),(55,v),(56,aa Fs.length),(57,aa (0:Nat))],(oC (oC 0 i) c,.cells ydy ydy ydy 4 [v1,v2,v3,v4])::pH i c rows cs,oC (oC 0 i) c+1,0⟩->_:=fun st aM=>f0 st ⟨0,v1,v2,v3,v4,aM,by omega,cK⟩
  unfold ab at e3
  cases c with
  | zero=>
   cases i
   all_goals
    simp only[oV,oH,oC,pH] at nD ⊢;simp only[go_sem,ya,yb,ES,kW,e2,bh,aQ,gz.st,hv.len];generalize bI:D P L (.loop [1,8,9,10,11,12,40,41,50,51,55,56,57] G3) _=q;obtain⟨ex,st,rfl,tm,ct,s1,s2,s3,s4,rfl,rfl,hs,t1,t8,t9,t10,t12,t40,t41,t50,t51⟩:=bg bI nD (by simp only[go_sem,ya,yb,aq,aC hv.pu]<;>rfl)
    obtain⟨gs,x1,x2,x3,x4,e4,g,hQ',bz,p1,p2,p3,p4⟩:=end_ s1 s2 s3 s4 hs;simp only[go_sem,ya,yb,xv,yG,yq,aq,t1,t8,t9,t10,t12,t40,t41,t50,t51,aC hv.pu,hv.len,dV,yg,e3,bh,gs.ah,gn.ah,e4,bz,p1,p2,p3,p4,wg,ahA,gL,wc];refine⟨_,d-1,rfl,by omega,1,[x1,x2,x3,x4],?_,by omega,?_⟩
    .simp only [go_sem,ya,yb,aq,aC hv.pu]<;>rfl
    .have:cs=[]:=yD (by omega)
     subst this;exact hQ'
  | succ c=>
   cases i
   all_goals
    simp only[oV,oH,oC,pH] at nD ⊢;simp only[go_sem,ya,yb,ES,kW,e2,bh,aQ,gz.st,hv.len];generalize bI:D P L (.loop [1,8,9,10,11,12,40,41,50,51,55,56,57] G3) _=q;obtain⟨ex,st,rfl,tm,ct,s1,s2,s3,s4,rfl,rfl,hs,t1,t8,t9,t10,t12,t40,t41,t50,t51⟩:=bg bI nD (by simp only[go_sem,ya,yb,aq,aC hv.pu]<;>rfl)
    obtain⟨gs,x1,x2,x3,x4,e4,g,hQ',bz,p1,p2,p3,p4⟩:=end_ s1 s2 s3 s4 hs;simp only[go_sem,ya,yb,xv,aq,t1,t8,t9,t10,t12,t40,t41,t50,t51,aC hv.pu,hv.len,dV,yg,e3,bh,gs.ah,gn.ah,e4,bz,p1,p2,p3,p4,wg,ahA]
    rw[ff (ex:=ydz) (pu:=ydy) (cs:=cs) (by simp only[go_sem,ya]) lq (by omega) (by omega) (by decide) (by simp only[go_sem,g.o1,g.o2,g.o3,g.o4])];simp only[go_sem,ya,yb,p1,p2,p3,p4,wc];refine⟨_,d-1,rfl,by omega,c+1+1,_,?_,by omega,hQ'⟩;simp only[go_sem,ya,yb,aq,aC hv.pu]<;>rfl
 .right
  have:c=m:=by omega
  subst this;rw[yK (by rw[oP];exact yx _)] at hQ
  have kW:¬(c:Int)<c:=by omega
  cases i<;>cases c
  all_goals
   simp only[oV,oH,oC,pH];simp only[go_sem,ya,yb,ES,kW,yu];exact⟨_,_,rfl,by simp,_,_,cs,rfl,rfl,hQ,by simp only[go_sem,ya],by simp only[go_sem,ya],by simp only[go_sem,ya],by simp only[go_sem,ya],by simp only[go_sem,ya]⟩
end
end
end VE
end
section
namespace VE
open Go (IntKind)
def pN(C R S:Int)(Fs:List (List (List Nat))):Int:=bf [iP C R S,if Fs.length=0 then 12 else 0,if 256<Fs.length then 5 else 0]
section
variable {P:aF}{L:Lib}
def ayS(h:Ctd P L){v:AV}{Fs:List (List (List Nat))}{n m:Nat}(hv:aY (aY cT) v Fs)(hF:zO Fs n m)(h0:0<Fs.length)(h4:Fs.length<=4)(hn:n<=64)(sX:0<m)(hm:m<=64):
  cE P L [1,8,40,41] G4 (fun d st=>∃(i:Nat) (rows:List AV),st=⟨[(1,v),(8,oV 0 i),(40,aa n),(41,aa i)],oH 0 1 rows [] i,oC 0 i,0⟩/\i+d=n/\c7 nt rows ((jh Fs m n).take i)) (fun ex s'=>∃tm ct rows,s'=⟨tm,oH 0 1 rows [] n,ct,0⟩/\ex=.exit 0/\c7 nt rows (jh Fs m n)/\ai tm 8=oV 0 n):=by
 apply cI;rintro d st ⟨i,rows,rfl,hid,hR⟩;by_cases hi:i<n
 .left
  obtain⟨f0,rest,Ae,e0⟩:=hv.bj h0;have Tk:=hF _ (xq h0);have hiF:i<(Fs[0]).length:=by rw[Tk.len];exact hi
  obtain⟨r0,aHI,iV,e1⟩:=Ae.bj hiF;have iV:cF r0 (dQ (Fs[0])[i]):=iV;have hlen:(dQ (Fs[0])[i]).length=m:=by rw[<-Tk.row _ (xq hiF)];simp
  have key:=ayR h hv hF h0 h4 (i:=i) (N:=n) hi hm (rows:=rows) m;have wi:IntKind.wrap .i64 ((i:Int)+1)=((i+1:Nat):Int):=wrap64 (by omega) (by omega);have eD:(i:Int)<n:=by omega
  have dn:bT (aa i)=Gr i:=rfl;have lR:=hR.len;rw[yP,GI,xo (by omega)] at lR;obtain⟨w',rfl⟩:∃w',m=w'+1:=⟨m-1,by omega⟩;have nD:∀st,bB [1,8,9,10,40,41,50,51] st=⟨[(1,v),(8,oV 0 i),(9,aa i),(10,oV (oC 0 i) 0),(40,aa n),(41,aa i),(50,aa (w'+1:Nat)),(51,aa (0:Nat))],pH i 0 rows [],oC (oC 0 i) 0,0⟩->_:=fun st aM=>key st ⟨0,[],aM,by omega,trivial⟩
  have end_:∀cs,QL cs (gO Fs (w'+1) i)->c7 nt (rows++[.au ydz (w'+1) cs]) ((jh Fs (w'+1) n).take (i+1))/\cs.length=(w'+1)*4:=fun cs dY=>by
   have h1:=ad6 ydz dY;rw[oP] at h1;refine⟨?_,by rw[dY.len,oP]⟩;rw[apE hi];exact hR.snoc h1
  cases i with
  | zero=>
   have:rows=[]:=yD lR
   subst this;simp only[oV,oH,oC,pH] at nD ⊢;simp only[go_sem,ya,yb,G4,eD,as0,e0,dn,e1,iV.len,hlen];generalize bI:D P L (.loop [1,8,9,10,40,41,50,51] ES) _=q;obtain⟨ex,st,rfl,tm,ct,cs,rfl,rfl,dY,t1,t8,t10,t40,t41⟩:=bg bI nD (by simp only[go_sem,ya,aq,aC hv.pu]<;>rfl)
   obtain⟨Gp,lc⟩:=end_ cs dY;have cL:=fun hp:Hp=>gD (hp:=hp) (k:=w'+1) (sz:=4) (cs:=cs) ydz lc (by decide)
   simp only[go_sem,ya,yb,xv,yG,yq,yh,aq,t1,t8,t10,t40,t41,aC hv.pu,cL,gL,wi];refine⟨_,d-1,rfl,by omega,1,_,?_,by omega,Gp⟩;simp only[go_sem,ya,yb,aq,aC hv.pu]<;>rfl
  | succ i=>
   simp only[oV,oH,oC,pH] at nD ⊢;simp only[go_sem,ya,yb,G4,eD,as0,e0,dn,e1,iV.len,hlen];generalize bI:D P L (.loop [1,8,9,10,40,41,50,51] ES) _=q;obtain⟨ex,st,rfl,tm,ct,cs,rfl,rfl,dY,t1,t8,t10,t40,t41⟩:=bg bI nD (by simp only[go_sem,ya,yb,aq,aC hv.pu]<;>rfl)
   obtain⟨Gp,lc⟩:=end_ cs dY;have cL:=fun hp:Hp=>gD (hp:=hp) (k:=w'+1) (sz:=4) (cs:=cs) ydz lc (by decide)
   simp only[go_sem,ya,yb,yq,yh,aq,t1,t8,t10,t40,t41,aC hv.pu,cL]
   rw[ff (ex:=ydz) (pu:=ydy) (cs:=rows) (by simp only[go_sem,ya]) (by rw[lR,yh]) (by omega) (by omega) (by decide) (by simp only[go_sem])];simp only[go_sem,ya,yb,wi];refine⟨_,d-1,rfl,by omega,i+1+1,_,?_,by omega,Gp⟩;simp only[go_sem,ya,yb,aq,aC hv.pu]<;>rfl
 .right
  have:i=n:=by omega
  subst this;rw[yK (by rw[GI];exact yx _)] at hR
  have eD:¬(i:Int)<i:=by omega
  simp only[go_sem,ya,G4,eD,yu];exact⟨_,_,rfl,by simp,_,_,rows,rfl,rfl,hR,by simp only[go_sem,ya]⟩
def aDS(Y3:Has P L 715 RD){v:AV}{M:List (List (List Nat))}(hv:aY (aY cT) v M)(hl:M.length<=1000000){g:Nat}{first:List AV}(hc:aH first=ydy)(hz:∀(w:AV) (F:List (List Nat)) (hp:Hp),aY cT w F->cA 1000 hp (first++[w])=Gr (first++[w],hp)){f:List (List Nat)->Int}(hg:∀w a,a∈M->aY cT w a->ab P L g (first++[w]) (aa (f a))):ab P L 715 [v,.fn (.f g) first []] (aa (bf (M.map f))):=by
 have pf:aV (.fn (.f g) first [])=ydy:=by simp[aV,aH,hc]
 have key:=fK P L [1,8,9,10] PT
  (fun k s=>∃i:Nat,s=⟨[(1,.fn (.f g) first []),(8,v),(9,aa M.length),(10,aa i)],[],0,0⟩/\i+k=M.length/\bf ((M.drop i).map f)=bf (M.map f))
  (fun ex s=>∃tm ct,s=⟨tm,[],ct,0⟩/\((ex=.ret/\ai tm 4=aa (bf (M.map f)))\/(ex=.exit 0/\bf (M.map f)=0))) ?_
 .unfold ab;rw[aD Y3];simp only[go_sem,ya,RD,hv.len];generalize hq:D P L (.loop _ PT) _=q;obtain⟨ex,s,rfl,tm,ct,rfl,h2⟩:=bg hq (key M.length) ⟨0,by simp only[go_sem,ya,aq,aC hv.pu,aC pf]<;>rfl,by omega,by simp⟩
  rcases h2 with ⟨rfl,h2⟩ | ⟨rfl,h2⟩
  .simp only [go_sem,h2]
  .rw [h2];simp only[go_sem,aq]
 .rintro k s ⟨i,rfl,hk,hf⟩;simp only[go_sem,ya,PT];by_cases hi:i<M.length
  .have da:(i:Int)<M.length:=by omega
   obtain⟨r,rest,hr,e0⟩:=hv.bj hi;have e1:=hg r _ (xq hi) hr;unfold ab at e1;rw[yS hi,yV] at hf;simp only[bf] at hf;by_cases cK:f M[i]=0
   .left
    rw[cK] at e1;simp only[go_sem,ya,da,e0,hz _ _ _ hr,e1,wu];refine⟨_,k-1,rfl,by omega,i+1,?_,by omega,by rw[yE cK] at hf;exact hf⟩
    rw[wrap64 (by omega) (by omega)];simp only[go_sem,ya,aq,aC hv.pu,aC pf]<;>rfl
   .right
    simp only[go_sem,ya,da,e0,hz _ _ _ hr,e1,cK,wu];rw[yp cK] at hf;refine⟨_,_,rfl,by simp,_,_,rfl,.inl ⟨rfl,?_⟩⟩;simp only[go_sem,hf]
  .right
   have da:¬(i:Int)<M.length:=by omega
   simp only[go_sem,da];refine⟨_,_,rfl,by simp,_,_,rfl,.inr ⟨rfl,?_⟩⟩;rw[<-hf,xb (by omega)];rfl
end
end VE
end
section
namespace VE
open Go (IntKind)
section
variable {v:AV}{C R S:Int}{cs rows:List AV}{c i:Nat}
def fE(l:List Rat):List AV:=l.map fun x=>AV.str (RT x)
def PL(l:List Rat):(fE l).length=l.length:=by simp[fE]
def af7(e:Bool)(l:List Rat):Af (.au e l.length (fE l)) (l.map RT):=by
 have:=auc e (l.map RT)
 rw[yU,List.map_map] at this;exact this
def tH(C R S:Int)(i c:Nat)(rows cs:List AV):Hp:=oH (oC 1 i) 1 cs (oH 1 1 rows [(0,bM C R S)] i) c
structure Rvg(P:aF)(L:Lib):Prop extends Rx0 P L,Fy P L,Fz P L,Rfc P L where
 MR:Has P L 650 Ro
 MS:Has P L 651 Rr
 Sk:Has P L 684 Ry
 Y4:Has P L 777 Mq
 aDT:Has P L 778 XO
section
variable {P:aF}{L:Lib}
def ayT(h:Rvg P L){Fs:List (List (List Nat))}{n m:Nat}(hv:aY (aY cT) v Fs)(hF:zO Fs n m)(h4:Fs.length<=4)(hi:i<n)(hc:c<m):
  cE P L [1,2,6,7,8,9,10,11] Hd (fun d st=>∃t,t+d=Fs.length/\st=⟨[(1,v),(2,.ptr 0 0),(6,oV 1 i),(7,aa i),(8,oV (oC 1 i) c),(9,aa c),(10,.str (RT (jP Fs c i t))),(11,aa t)],tH C R S i c rows cs,oC (oC 1 i) c,0⟩) (fun ex s'=>∃tm ct,s'=⟨tm,tH C R S i c rows cs,ct,0⟩/\ex=.exit 4/\bD tm [1,2,6,7,8,9,10]=[(1,v),(2,.ptr 0 0),(6,oV 1 i),(7,aa i),(8,oV (oC 1 i) c),(9,aa c),(10,.str (RT (jP Fs c i Fs.length)))]):=by
 apply cI;rintro d st ⟨t,htd,rfl⟩;by_cases ht:t<Fs.length
 .left
  obtain⟨fr,rest,eh,e0⟩:=hv.bj ht;have NU:=hF _ (xq ht);obtain⟨w2,Xa,bits,e1,⟨aHJ,e2⟩,e3⟩:=auC h.toFy eh NU hc hi;have ks:=Hl hF hc hi t (by omega);have ku:=NU.H hi hc;have e4:=ahx h.toRp ks ku (by omega);have hs:jP Fs c i t+Bj Fs[t] c i=jP Fs c i (t+1):=by
   show _=jP Fs c i t+Bj (Fs.getD t []) c i
   rw[zD [] ht]
  rw[hs] at e4;have wt:IntKind.wrap .i64 ((t:Int)+1)=((t+1:Nat):Int):=wrap64 (by omega) (by omega);have dn:bT (aa i)=Gr i:=rfl;have Ah:bT (aa c)=Gr c:=rfl;have ast:bT (aa t)=Gr t:=rfl;unfold ab at e3 e4;generalize RT (jP Fs c i t)=u at*
  generalize RT (Bj Fs[t] c i)=u1 at*
  cases i<;>cases c
  all_goals
   simp only[oV,oH,oC,tH];simp only[go_sem,ya,yb,Hd,hv.len,show (t:Int)<Fs.length by omega,dn,Ah,ast,e0,e1,e2,zu,e3,e4,wt];refine⟨_,d-1,rfl,by omega,t+1,by omega,?_⟩;simp only[go_sem,ya,yb,aq,bM,aC hv.pu]<;>rfl
 .right
  have:t=Fs.length:=by omega
  subst this;generalize RT (jP Fs c i Fs.length)=u at*
  cases i<;>cases c
  all_goals
   simp only[oV,oH,oC,tH];simp only[go_sem,ya,yb,Hd,hv.len,show ¬(Fs.length:Int)<Fs.length by omega];exact⟨_,_,rfl,by simp,_,_,rfl,rfl,by simp only[go_sem,ya]<;>rfl⟩
def auE(pv:aV v=ydy){u:List Nat}{tm:Env}{ct:Nat}(hk:bD tm [1,2,6,7,8,9,10]=[(1,v),(2,.ptr 0 0),(6,oV 1 i),(7,aa i),(8,oV (oC 1 i) c),(9,aa c),(10,.str u)]):bB [1,2,6,7,8,9,10] ⟨tm,tH C R S i c rows cs,ct,0⟩=⟨[(1,v),(2,.ptr 0 0),(6,oV 1 i),(7,aa i),(8,oV (oC 1 i) c),(9,aa c),(10,.str u)],tH C R S i c rows cs,oC (oC 1 i) c,0⟩:=by
 rw[kJ (c':=ct) (tm':=[(1,v),(2,.ptr 0 0),(6,oV 1 i),(7,aa i),(8,oV (oC 1 i) c),(9,aa c),(10,.str u)]) (by rw[hk];rfl)]
 cases i<;>cases c<;>simp only[go_sem,ya,yb,aq,oV,oH,oC,tH,bM,aC pv]<;>rfl
def auF(pv:aV v=ydy){tm:Env}{ct:Nat}(hk:bD tm [1,2,6,7,8]=[(1,v),(2,.ptr 0 0),(6,oV 1 i),(7,aa i),(8,oV (oC 1 i) c)]):bB [1,2,6,7,8] ⟨tm,tH C R S i c rows cs,ct,0⟩=⟨[(1,v),(2,.ptr 0 0),(6,oV 1 i),(7,aa i),(8,oV (oC 1 i) c)],tH C R S i c rows cs,oC (oC 1 i) c,0⟩:=by
 rw[kJ (c':=ct) (tm':=[(1,v),(2,.ptr 0 0),(6,oV 1 i),(7,aa i),(8,oV (oC 1 i) c)]) (by rw[hk];rfl)]
 cases i<;>cases c<;>simp only[go_sem,ya,yb,aq,oV,oH,oC,tH,bM,aC pv]<;>rfl
def ayU(h:Rvg P L){Fs:List (List (List Nat))}{C R S:Nat}(hv:aY (aY cT) v Fs)(hF:zO Fs (R*S) (C*S))(h0:0<Fs.length)(h4:Fs.length<=4)(hC:C<=8)(hS:S<=8)(hi:i<R*S):
  cE P L [1,2,6,7,8,9] EW (fun d st=>∃c,c+d=C*S/\st=⟨[(1,v),(2,.ptr 0 0),(6,oV 1 i),(7,aa i),(8,oV (oC 1 i) c),(9,aa c)],tH C R S i c rows (fE ((gO Fs (C*S) i).take c)),oC (oC 1 i) c,0⟩) (fun ex s'=>∃tm ct,s'=⟨tm,tH C R S i (C*S) rows (fE (gO Fs (C*S) i)),ct,0⟩/\ex=.exit 2/\bD tm [1,2,6,7,8]=[(1,v),(2,.ptr 0 0),(6,oV 1 i),(7,aa i),(8,oV (oC 1 i) (C*S))]):=by
 apply cI;rintro d st ⟨c,hcd,rfl⟩;have Cu:C*S<=64:=yZ hC hS;have m1:(C:Int)*(S:Int)=((C*S:Nat):Int):=by rw[xx]
 have w0:IntKind.wrap .i64 ((C*S:Nat):Int)=((C*S:Nat):Int):=wrap64 (by omega) (by omega);generalize hm:C*S=m at*
 by_cases hc:c<m
 .left
  have key:=ayT h hv hF h4 hi hc (C:=C) (R:=R) (S:=S) (rows:=rows) (cs:=fE ((gO Fs m i).take c));have bN:=fun (u:List Nat) (tm:Env) (ct:Nat) hk=>auE (v:=v) hv.pu (C:=C) (R:=R) (S:=S) (i:=i) (c:=c) (rows:=rows) (cs:=fE ((gO Fs m i).take c)) (u:=u) (tm:=tm) (ct:=ct) hk
  have kW:(c:Int)<(m:Nat):=by omega
  have wc:IntKind.wrap .i64 ((c:Int)+1)=((c+1:Nat):Int):=wrap64 (by omega) (by omega);have e1:=W1 h.toRm h.toFy.MJ (n:=((Fs.length:Nat):Int)) (by omega);have bU:(((Fs.length:Nat):Int):Rat)≠0:=by
   intro q
   have:((Fs.length:Nat):Int)=0:=by exact_mod_cast q
   omega
  have ks:=Hl hF hc hi _ (yx _);have e2:=aAn h.toRx0 (a:=jP Fs c i Fs.length) (b:=(((Fs.length:Nat):Int):Rat)) (K:=1800) (M:=3) (ks.mono (by omega)) (Vc h4) (by decide) bU;have Tl:jP Fs c i Fs.length/(((Fs.length:Nat):Int):Rat)=Ib Fs c i:=rfl;rw[Tl] at e2;have Gk:fE ((gO Fs m i).take (c+1))=fE ((gO Fs m i).take c)++[.str (RT (Ib Fs c i))]:=by rw[ac4 hc];simp[fE]
  have lc:(fE ((gO Fs m i).take c)).length=c:=by rw[PL,yP,oP,xo (by omega)]
  have hz:RT (jP Fs c i 0)=[48]:=by rw[jP];decide
  unfold ab at e1 e2;have ia:∀(tm:Env) (s:List Nat),lD tm [AV.str []] 0 1 [.str s] []=Gr [.str s]:=fun _ _=>rfl
  have iq:∀(cf pu ex:Bool) (a:AV),pG 0 1 1 (Gr (.cells cf pu ex 1 [a]))=Gr (1,[a]):=fun _ _ _ _=>rfl
  have dX:∀s:List Nat,cellsOf (.str s)=[.str s]:=fun _=>rfl
  cases c with
  | zero=>
   have gI:fE ((gO Fs m i).take 1)=[.str (RT (Ib Fs 0 i))]:=Gk;cases i
   all_goals
    simp only[oV,oH,oC,tH] at key bN ⊢;simp only[go_sem,ya,yb,EW,bM,aX,ye,yg,yL,m1,w0,kW];generalize hQ:D P L (.loop _ Hd) _=Q;obtain⟨ex,st,rfl,tm,ct,rfl,rfl,cY⟩:=bg hQ (key Fs.length) ⟨0,by omega,by rw[hz];simp only[go_sem,ya,yb,aq,bM,aC hv.pu]<;>rfl⟩
    simp only[go_sem,ya,yb,xv,yG,yq,yh,bN _ tm ct cY,hv.len,e1,e2,dX,ia,eQ,kL,kK,iq,gL,wc];refine⟨_,d-1,rfl,by omega,1,by omega,?_⟩;rw[gI];simp only[go_sem,ya,yb,aq,bM,aC hv.pu]<;>rfl
  | succ c=>
   have iQ:=fun (hp:Hp) (ct id:Nat) (z:List Nat) (hg:ak hp id=Gr (.cells ydy ydy ydz 1 (fE ((gO Fs m i).take (c+1)))))=>ff (ct:=ct) (by':=16) (new:=[AV.str z]) (m:=1) (n:=c+1) hg (by rw[lc,yh]) (by omega) (by omega) (by decide) rfl
   cases i
   all_goals
    simp only[oV,oH,oC,tH] at key bN ⊢;simp only[go_sem,ya,yb,EW,bM,aX,ye,yg,yL,m1,w0,kW];generalize hQ:D P L (.loop _ Hd) _=Q;obtain⟨ex,st,rfl,tm,ct,rfl,rfl,cY⟩:=bg hQ (key Fs.length) ⟨0,by omega,by rw[hz];simp only[go_sem,ya,yb,aq,bM,aC hv.pu]<;>rfl⟩
    simp only[go_sem,ya,yb,yh,bN _ tm ct cY,hv.len,e1,e2,dX,ia,eQ,kL,kK,iq,iQ,wc,wg];refine⟨_,d-1,rfl,by omega,c+1+1,by omega,?_⟩;rw[Gk];simp only[go_sem,ya,yb,aq,bM,aC hv.pu]<;>rfl
 .right
  have:c=m:=by omega
  subst this;rw[yK (by rw[oP];exact yx _)]
  have kW:¬(c:Int)<(c:Nat):=by omega
  cases i<;>cases c
  all_goals
   simp only[oV,oH,oC,tH];simp only[go_sem,ya,yb,EW,bM,aX,ye,yg,yL,m1,w0,kW];exact⟨_,_,rfl,by simp,_,_,rfl,rfl,by simp only[go_sem,ya]<;>rfl⟩
noncomputable def nI(Fs:List (List (List Nat)))(m i:Nat):List AV:=(wR i).map fun r=>AV.au ydz m (fE (gO Fs m r))
def aek(Fs:List (List (List Nat)))(m i:Nat):nI Fs m (i+1)=nI Fs m i++[.au ydz m (fE (gO Fs m i))]:=by unfold nI;rw[ybc,xB];rfl
def afi(Fs:List (List (List Nat)))(m i:Nat):(nI Fs m i).length=i:=by simp[nI]
def afj(Fs:List (List (List Nat)))(m:Nat):∀n,c7 Af (nI Fs m n) ((jh Fs m n).map fun r=>r.map RT)
 | 0=>trivial
 | n+1=>by
  rw[aek,show jh Fs m (n+1)=jh Fs m n++[gO Fs m n] by unfold jh;rw[ybc,xB];rfl,xB]
  refine (afj Fs m n).snoc ?_
  have:=af7 ydz (gO Fs m n)
  rwa[oP] at this
def aDU(h:Rvg P L){Fs:List (List (List Nat))}{C R S:Nat}(hv:aY (aY cT) v Fs)(hF:zO Fs (R*S) (C*S))(h0:0<Fs.length)(h4:Fs.length<=4)(hC:C<=8)(hR:R<=8)(hS:S<=8)(sC:0<C*S)(Ic:0<R*S):
  (((jh Fs (C*S) (R*S)).any fun r=>r.any df)=ydy->ab P L 778 [.agg [aa C,aa R,aa S],v] (.av [.aj,aa 4]))/\(((jh Fs (C*S) (R*S)).any fun r=>r.any df)=ydz->∃rows,ab P L 778 [.agg [aa C,aa R,aa S],v] (.av [.au ydz (R*S) rows,aa 0])/\aY (aY gV) (.au ydz (R*S) rows) (jh Fs (C*S) (R*S))):=by
 have Cu:C*S<=64:=yZ hC hS;have Cv:R*S<=64:=yZ hR hS;have m1:(R:Int)*(S:Int)=((R*S:Nat):Int):=by rw[xx]
 have w0:IntKind.wrap .i64 ((R*S:Nat):Int)=((R*S:Nat):Int):=wrap64 (by omega) (by omega);have oM:=GI Fs (C*S) (R*S);have e1:=ajz h.toFz h.Sk (v:=.au ydz (R*S) (nI Fs (C*S) (R*S))) (M:=jh Fs (C*S) (R*S)) (by
  have:=rJ ydz (afj Fs (C*S) (R*S))
  rwa[yU,oM] at this) (by omega) (by omega) (fun r hr=>by
  obtain⟨k,hk,rfl⟩:=wA.1 hr;have hk:=vW.1 hk;refine⟨by rw[oP];exact sC,by rw[oP];omega,fun x hx=>?_⟩
  obtain⟨c,hc,rfl⟩:=wA.1 hx
  exact (af6 hF (vW.1 hc) hk h4).mono (by decide))
 rw[oM] at e1;have key:=fK P L [1,2,6,7] He
  (fun d st=>∃i,i+d=R*S/\st=⟨[(1,v),(2,.ptr 0 0),(6,oV 1 i),(7,aa i)],oH 1 1 (nI Fs (C*S) i) [(0,bM C R S)] i,oC 1 i,0⟩)
  (fun ex st=>∃tm ct,st=⟨tm,oH 1 1 (nI Fs (C*S) (R*S)) [(0,bM C R S)] (R*S),ct,0⟩/\ex=.exit 0/\bD tm [6]=[(6,oV 1 (R*S))]) (by
   rintro d st ⟨i,hid,rfl⟩;by_cases hi:i<R*S
   .left
    have key:=ayU h hv hF h0 h4 hC hS hi (rows:=nI Fs (C*S) i);have bN:=fun (tm:Env) (ct:Nat) hk=>auF (v:=v) hv.pu (C:=C) (R:=R) (S:=S) (i:=i) (c:=C*S) (rows:=nI Fs (C*S) i) (cs:=fE (gO Fs (C*S) i)) (tm:=tm) (ct:=ct) hk
    have eD:(i:Int)<((R*S:Nat):Int):=by omega
    have wi:IntKind.wrap .i64 ((i:Int)+1)=((i+1:Nat):Int):=wrap64 (by omega) (by omega);have zW:=aek Fs (C*S) i;have lR:=afi Fs (C*S) i;have mi:(fE (gO Fs (C*S) i)).length=C*S:=by rw[PL,oP]
    obtain⟨m,hm⟩:∃m,C*S=m+1:=⟨C*S-1,by omega⟩;rw[hm] at key bN zW lR mi ⊢;have cL:=fun hp:Hp=>gD (hp:=hp) (k:=m+1) (sz:=1) (cs:=fE (gO Fs (m+1) i)) ydz (by rw[mi,yh]) (by decide)
    have ia:∀(tm:Env) (e:Bool) (k:Nat) (cs:List AV),lD tm [AV.aj] 0 1 [.au e k cs] []=Gr [.au e k cs]:=fun _ _ _ _=>rfl
    have iq:∀(cf pu ex:Bool) (a:AV),pG 0 1 1 (Gr (.cells cf pu ex 1 [a]))=Gr (1,[a]):=fun _ _ _ _=>rfl
    have iQ:=fun (hp:Hp) (ct:Nat) (e:Bool) (k:Nat) (cs:List AV) (hg:ak hp 1=Gr (.cells ydy ydy ydz 1 (nI Fs (m+1) i)))=>ff (ct:=ct) (by':=24) (new:=[.au e k cs]) (m:=1) (n:=i) hg (by rw[lR,yh]) (by omega) (by omega) (by decide) rfl
    cases i with
    | zero=>
     have dS:nI Fs (m+1) 1=[.au ydz (m+1) (fE (gO Fs (m+1) 0))]:=zW;simp only[oV,oH,oC,tH] at key bN ⊢;simp only[go_sem,ya,yb,He,bM,aX,ye,yg,yL,m1,w0,eD];generalize hQ:D P L (.loop _ EW) _=Q;obtain⟨ex,st,rfl,tm,ct,rfl,rfl,cY⟩:=bg hQ (key (m+1)) ⟨0,by omega,by simp only[go_sem,ya,yb,aq,bM,aC hv.pu]<;>rfl⟩
     simp only[go_sem,ya,yb,xv,yG,yq,yh,bN tm ct cY,cL,ia,eQ,kL,kK,iq,gL,wi];refine⟨_,d-1,rfl,by omega,1,by omega,?_⟩;rw[dS];simp only[go_sem,ya,yb,aq,bM,aC hv.pu]<;>rfl
    | succ i=>
     simp only[oV,oH,oC,tH] at key bN ⊢;simp only[go_sem,ya,yb,He,bM,aX,ye,yg,yL,m1,w0,eD];generalize hQ:D P L (.loop _ EW) _=Q;obtain⟨ex,st,rfl,tm,ct,rfl,rfl,cY⟩:=bg hQ (key (m+1)) ⟨0,by omega,by simp only[go_sem,ya,yb,aq,bM,aC hv.pu]<;>rfl⟩
     simp only[go_sem,ya,yb,yh,bN tm ct cY,cL,ia,eQ,kL,kK,iq,iQ,wi];refine⟨_,d-1,rfl,by omega,i+1+1,by omega,?_⟩;rw[zW];simp only[go_sem,ya,yb,aq,bM,aC hv.pu]<;>rfl
   .right
    have oK:i=R*S:=by omega
    subst oK;have eD:¬((R*S:Nat):Int)<((R*S:Nat):Int):=by omega
    obtain⟨n,hn⟩:∃n,R*S=n+1:=⟨R*S-1,by omega⟩;rw[hn] at m1 w0 eD ⊢;simp only[oV,oH,oC];simp only[go_sem,ya,yb,He,bM,aX,ye,yg,yL,m1,w0,eD]
    exact⟨_,_,rfl,by simp,_,_,rfl,rfl,by simp only[go_sem,ya]<;>rfl⟩) (R*S)
 unfold ab at e1 ⊢;rw[aD h.aDT];simp only[go_sem,yb,XO,gB];generalize hQ:D P L (.loop _ He) _=Q;obtain⟨ex,st,rfl,tm,ct,rfl,rfl,cY⟩:=bg hQ key ⟨0,by omega,by simp only[go_sem,ya,yb,aq,oV,oH,oC,bM,aC hv.pu]<;>rfl⟩
 have lR:=afi Fs (C*S) (R*S);obtain⟨n,hn⟩:∃n,R*S=n+1:=⟨R*S-1,by omega⟩;rw[hn] at cY lR e1 ⊢;have bN:bB [6] ⟨tm,oH 1 1 (nI Fs (C*S) (n+1)) [(0,bM C R S)] (n+1),ct,0⟩=⟨[(6,.ay 0 0 (n+1))],[(0,.cells ydy ydy ydz 1 (nI Fs (C*S) (n+1)))],1,0⟩:=by
  rw[kJ (c':=ct) (tm':=[(6,.ay 1 0 (n+1))]) (by rw[cY];rfl)]
  simp only[go_sem,yb,aq,oH,bM]<;>rfl
 have cL:=fun hp:Hp=>gD (hp:=hp) (k:=n+1) (sz:=1) (cs:=nI Fs (C*S) (n+1)) ydz (by rw[lR,yh]) (by decide)
 refine⟨fun q=>?_,fun q=>?_⟩
 .have e1:=e1.1 q;simp only[go_sem,ya,bN,cL,e1,fU,fS,fT,JT,Bo]
 .obtain ⟨rows,e1,hR⟩:=e1.2 q;refine⟨rows,?_,hR⟩;simp only[go_sem,ya,bN,cL,e1,fU,fS,fT,Bo]
end
end
end VE
end
section
namespace VE
open Go (IntKind)
def B4(C R S:Nat)(Fs:List (List (List Nat))):Int:=if Fs.length=0 then 12 else if 256<Fs.length then 5 else bf (Fs.map (j0 (R*S) (C*S)))
section
variable {P:aF}{L:Lib}
def aDV(h:Rvg P L){v:AV}{Fs:List (List (List Nat))}{C R S:Nat}(hv:aY (aY cT) v Fs)(hl:Fs.length<=1000000)(hr:∀F,F∈Fs->F.length<=1000000/\∀r,r∈F->r.length<=1000000)(hC:C<=8)(hR:R<=8)(hS:S<=8):ab P L 777 [.agg [aa C,aa R,aa S],v] (aa (B4 C R S Fs)):=by
 unfold B4;by_cases c1:Fs.length=0
 .rw [yE c1];unfold ab;rw[aD h.Y4];simp only[go_sem,ya,yb,Mq,gB,hv.len,show ((Fs.length:Nat):Int)=0 by omega]
 .rw [yp c1];by_cases c2:256<Fs.length
  .rw [yE c2];unfold ab;rw[aD h.Y4];simp only[go_sem,ya,yb,Mq,gB,hv.len,show ¬((Fs.length:Nat):Int)=0 by omega,show ((Fs.length:Nat):Int)>256 by omega]
  .rw [yp c2];have fz:=nA;have key:=fK P L [1,2,5] Hc
    (fun d st=>∃i:Nat,i+d=Fs.length/\bf ((Fs.drop i).map (j0 (R*S) (C*S)))=bf (Fs.map (j0 (R*S) (C*S)))/\st=⟨[(1,v),(2,.ptr 0 0),(5,aa i)],[(0,bM C R S)],1,0⟩)
    (Q:=fun ex st=>∃tm ct,st=⟨tm,[(0,bM C R S)],ct,0⟩/\((ex=.ret/\ai tm 4=aa (bf (Fs.map (j0 (R*S) (C*S)))))\/(ex=.exit 0/\bf (Fs.map (j0 (R*S) (C*S)))=0))) (by
     rintro d st ⟨i,hid,hf,rfl⟩;by_cases hi:i<Fs.length
     .obtain ⟨fr,rest,eh,e0⟩:=hv.bj hi;obtain⟨k1,k2⟩:=hr _ (xq hi);have e1:=aDN h.toRfc hC hR hS eh k1 k2;have eD:(i:Int)<Fs.length:=by omega
      have dn:bT (aa i)=Gr i:=rfl;have wi:IntKind.wrap .i64 ((i:Int)+1)=((i+1:Nat):Int):=wrap64 (by omega) (by omega);rw[yS hi,yV] at hf;simp only[bf] at hf;unfold ab at e1;by_cases hz:j0 (R*S) (C*S) Fs[i]=0
      .left
       rw[hz] at e1;rw[yE hz] at hf;simp only[go_sem,ya,Hc,bM,hv.len,eD,dn,e0,eh.ah,yg,gY,fz,e1,wi];exact⟨_,d-1,rfl,by omega,i+1,by omega,hf,by simp only[go_sem,ya,yb,aq,aC hv.pu]<;>rfl⟩
      .right
       rw[yp hz] at hf;simp only[go_sem,ya,Hc,bM,hv.len,eD,dn,e0,eh.ah,yg,gY,fz,e1,hz];exact⟨_,_,rfl,by simp,_,_,rfl,.inl ⟨rfl,by simp only[go_sem,hf]⟩⟩
     .right
      have oK:i=Fs.length:=by omega
      subst oK;rw[xb (yx _)] at hf;simp only[go_sem,ya,Hc,hv.len,show ¬(Fs.length:Int)<Fs.length by omega]
      exact⟨_,_,rfl,by simp,_,_,rfl,.inr ⟨rfl,hf.symm⟩⟩) Fs.length
   unfold ab;rw[aD h.Y4];simp only[go_sem,ya,yb,Mq,gB,hv.len,show ¬((Fs.length:Nat):Int)=0 by omega,show ¬((Fs.length:Nat):Int)>256 by omega];generalize hQ:D P L (.loop _ Hc) _=Q;obtain⟨ex,st,rfl,tm,ct,rfl,hh⟩:=bg hQ key ⟨0,by omega,by simp,by simp only[go_sem,ya,yb,aq,bM,aC hv.pu]<;>rfl⟩
   rcases hh with ⟨rfl,t4⟩ | ⟨rfl,hz⟩
   .simp only [go_sem,t4]
   .rw [hz];simp only[go_sem,aq]
end
end VE
end
section
namespace VE
open Go (IntKind)
section
variable {v:AV}{C R S:Nat}
section
variable {P:aF}{L:Lib}
def Vd(h:Avg P L){C R S:Int}{Fs:List (List (List Nat))}(hv:aY (aY cT) v Fs)(hl:Fs.length<=1000000)(fp:pN C R S Fs≠0):ab P L 668 [.agg [aa C,aa R,aa S],v] (.av [.aj,aa (pN C R S Fs)]):=by
 have e1:=H7 h.toFrc C R S;have e2:=nv (P:=P) (L:=L) h.toFrc.jA (decide ((Fs.length:Int)=0)) 12;have e3:=nv (P:=P) (L:=L) h.toFrc.jA (decide ((Fs.length:Int)>256)) 5;rw[show (if decide ((Fs.length:Int)=0)=ydy then (12:Int) else 0)=(if Fs.length=0 then 12 else 0) by by_cases e:Fs.length=0<;>simp[e]] at e2
 rw[show (if decide ((Fs.length:Int)>256)=ydy then (5:Int) else 0)=(if 256<Fs.length then 5 else 0) by
  by_cases e:256<Fs.length
  .rw [yE e,yN (show (Fs.length:Int)>256 by omega)];rfl
  .rw [yp e,yC (show ¬(Fs.length:Int)>256 by omega)];rfl] at e3
 have e4:=AW (P:=P) (L:=L) h.toFrc.AX (eP ydy [iP C R S,if Fs.length=0 then 12 else 0,if 256<Fs.length then 5 else 0]) (by simp);simp only[yB,yM,ye,yb,yV,wJ] at e4;have cL:∀(hp:Hp) (n:Nat) (a b c:Int),freeze (n+20) hp (.au ydy 3 [aa a,aa b,aa c])=Gr (.au ydy 3 [aa a,aa b,aa c],hp):=fun hp n a b c=>(eP ydy [a,b,c]).ah (n+19)
 have fz:=nA;unfold pN at fp ⊢;generalize (if Fs.length=0 then (12:Int) else 0)=q1 at*
 generalize (if 256<Fs.length then (5:Int) else 0)=q2 at*
 generalize iP C R S=q3 at*
 unfold ab at e1 e2 e3 e4;unfold ab;rw[aD h.Y2];simp only[go_sem,ya,yb,yG,yq,yh,Mk,gB,yg,gY,fz,e1,hv.len,e2,e3,eQ,e4,fp]
def af8(h:Avg P L){Fs:List (List (List Nat))}(hv:aY (aY cT) v Fs)(hl:Fs.length<=1000000)(hr:∀F,F∈Fs->F.length<=1000000/\∀r,r∈F->r.length<=1000000)(hC:C<=8)(hR:R<=8)(hS:S<=8):
  ab P L 715 [v,.fn (.f 670) [.agg [aa C,aa R,aa S]] []] (aa (bf (Fs.map (j0 (R*S) (C*S))))):=by
 have fz:=nA
 exact aDS h.Y3 hv hl (first:=[.agg [aa C,aa R,aa S]]) rfl (fun w F hp hw=>by simp only[go_sem,xe,xt,fz,hw.ah]) (fun w a ha hw=>aDy h.toFrc hC hR hS hw (hr a ha).1 (hr a ha).2)
def apF(h:Avg P L){Fs:List (List (List Nat))}(hv:aY (aY cT) v Fs)(hl:Fs.length<=1000000)(hr:∀F,F∈Fs->F.length<=1000000/\∀r,r∈F->r.length<=1000000)(hC:C<=8)(hR:R<=8)(hS:S<=8)(Tl:pN C R S Fs=0)(fp:bf (Fs.map (j0 (R*S) (C*S)))≠0):ab P L 668 [.agg [aa C,aa R,aa S],v] (.av [.aj,aa (bf (Fs.map (j0 (R*S) (C*S))))]):=by
 have e1:=H7 h.toFrc C R S;have e5:=af8 h hv hl hr hC hR hS;unfold pN at Tl;obtain⟨a1,a2,a3⟩:=ae6.1 Tl;have h0:¬Fs.length=0:=fun q=>by rw[yE q] at a2;exact absurd a2 (by decide)
 have aId:¬256<Fs.length:=fun q=>by rw[yE q] at a3;exact absurd a3 (by decide)
 have e2:=nv (P:=P) (L:=L) h.toFrc.jA ydz 12;have e3:=nv (P:=P) (L:=L) h.toFrc.jA ydz 5;have e4:=AW (P:=P) (L:=L) h.toFrc.AX (eP ydy [0,0,0]) (by simp);simp only[yB,yM,ye,yb,yV,wJ,yH,xz] at e2 e3 e4;rw[show bf [0,0,0]=0 by decide] at e4;rw[a1] at e1;have cL:∀(hp:Hp) (n:Nat) (a b c:Int),freeze (n+20) hp (.au ydy 3 [aa a,aa b,aa c])=Gr (.au ydy 3 [aa a,aa b,aa c],hp):=fun hp n a b c=>(eP ydy [a,b,c]).ah (n+19)
 have fz:=nA;generalize bf (Fs.map (j0 (R*S) (C*S)))=q at*
 unfold ab at e1 e2 e3 e4 e5;unfold ab;rw[aD h.Y2];simp only[go_sem,ya,yb,yG,yq,yh,Mk,gB,yg,gY,fz,e1,hv.len,hv.ah,show ¬((Fs.length:Nat):Int)=0 by omega,show ¬((Fs.length:Nat):Int)>256 by omega,yu,e2,e3,eQ,e4,e5,fp]
def auG(h:Avg P L){Fs:List (List (List Nat))}(hv:aY (aY cT) v Fs)(hF:zO Fs (R*S) (C*S))(h0:0<Fs.length)(h4:Fs.length<=4)(hC:C<=8)(hR:R<=8)(hS:S<=8)(sC:0<C*S)(Ic:0<R*S)(hg:iP C R S=0)(ht:bf (Fs.map (j0 (R*S) (C*S)))=0):
  (((jh Fs (C*S) (R*S)).any fun r=>r.any df)=ydy->ab P L 668 [.agg [aa C,aa R,aa S],v] (.av [.aj,aa 4]))/\(((jh Fs (C*S) (R*S)).any fun r=>r.any df)=ydz->∃rows,ab P L 668 [.agg [aa C,aa R,aa S],v] (.av [.au ydz (R*S) rows,aa 0])/\aY (aY gV) (.au ydz (R*S) rows) (jh Fs (C*S) (R*S))):=by
 have Cu:C*S<=64:=yZ hC hS;have Cv:R*S<=64:=yZ hR hS;have e1:=H7 h.toFrc C R S;have e5:=af8 h hv (by omega) (fun F hm=>by
  have hk:=hF F hm
  refine⟨by rw[hk.len];omega,fun r hr=>by rw[hk.row r hr];omega⟩) hC hR hS
 have e2:=nv (P:=P) (L:=L) h.toFrc.jA ydz 12;have e3:=nv (P:=P) (L:=L) h.toFrc.jA ydz 5;have e4:=AW (P:=P) (L:=L) h.toFrc.AX (eP ydy [0,0,0]) (by simp);simp only[yB,yM,ye,yb,yV,wJ,yH,xz] at e2 e3 e4;rw[show bf [0,0,0]=0 by decide] at e4;rw[hg] at e1;rw[ht] at e5;have cL:∀(hp:Hp) (n:Nat) (a b c:Int),freeze (n+20) hp (.au ydy 3 [aa a,aa b,aa c])=Gr (.au ydy 3 [aa a,aa b,aa c],hp):=fun hp n a b c=>(eP ydy [a,b,c]).ah (n+19)
 have fz:=nA;have oM:=GI Fs (C*S) (R*S);obtain⟨f0,rest,Ae,e0⟩:=hv.bj h0;have Tk:=hF _ (xq h0);have kT:=Tk.len;have key:=ayS h.toCtd hv hF h0 h4 Cv sC Cu;have e6:∀rows,c7 nt rows (jh Fs (C*S) (R*S))->_:=fun rows hR=>ajy h.toFto (v:=.au ydz (R*S) rows) (M:=jh Fs (C*S) (R*S)) (K:=1725) (by
  have:=rJ ydz hR
  rwa[oM] at this) (by omega) (by omega) (fun r hr=>by
  obtain⟨k,hk,rfl⟩:=wA.1 hr;have hk:=vW.1 hk;refine⟨by rw[oP];exact sC,by rw[oP];omega,fun x hx=>?_⟩
  obtain⟨c,hc,rfl⟩:=wA.1 hx
  exact af6 hF (vW.1 hc) hk h4) (by decide)
 rw[oM] at e6;unfold ab at e1 e2 e3 e4 e5 e6 ⊢;rw[aD h.Y2];simp only[go_sem,ya,yb,yG,yq,yh,Mk,gB,yg,gY,fz,e1,hv.len,hv.ah,show ¬((Fs.length:Nat):Int)=0 by omega,show ¬((Fs.length:Nat):Int)>256 by omega,yu,e2,e3,eQ,e4,e5,as0,e0,Ae.len,kT];generalize hQ:D P L (.loop _ G4) _=Q;obtain⟨ex,st,rfl,tm,ct,rows,rfl,rfl,hR,t8⟩:=bg hQ (key (R*S)) ⟨0,[],by simp only[go_sem,ya,aq,oV,oH,oC,aC hv.pu]<;>rfl,by omega,trivial⟩
 have e6:=e6 rows hR;have lR:=hR.len;rw[oM] at lR;obtain⟨n,hn⟩:∃n,R*S=n+1:=⟨R*S-1,by omega⟩;rw[hn] at t8 lR e6 ⊢;have bN:bB [8] ⟨tm,oH 0 1 rows [] (n+1),ct,0⟩=⟨[(8,.ay 0 0 (n+1))],[(0,.cells ydy ydy ydz 1 rows)],1,0⟩:=by
  simp only[go_sem,yb,aq,oH,oV,t8]<;>rfl
 have Ie:=fun hp:Hp=>gD (hp:=hp) (k:=n+1) (sz:=1) (cs:=rows) ydz (by rw[lR,yh]) (by decide)
 refine⟨fun q=>?_,fun q=>?_⟩
 .have e6:=e6.1 q;simp only[go_sem,ya,bN,Ie,e6,fU,fS,fT,JT,Bo]
 .obtain ⟨cf,e6,Gp⟩:=e6.2 q;refine⟨cf,?_,Gp⟩;simp only[go_sem,ya,bN,Ie,e6,fU,fS,fT,Bo]
end
end
end VE
end
section
namespace VE
open Go (IntKind)
def kR(S:Nat):Rat:=qM S (S-1)
def gP(S:Nat)(t:Rat):Bool:=decide (kR S<t)||decide (kR S< -t)
noncomputable def FQ(S:Nat)(a b:List Nat):Int:=if bf [bX a,bX b]=0 then (if (gP S (aS a)||gP S (aS b))=ydy then 31 else 0) else bf [bX a,bX b]
structure Bk(P:aF)(L:Lib):Prop extends Avg P L where
 Y5:Has P L 657 Mj
 aDW:Has P L 694 RA
 Sl:Has P L 695 RB
 ajA:Has P L 696 RC
section
variable {P:aF}{L:Lib}
def ajB(h:Ctd P L){S:Nat}{a b s:List Nat}{k:Nat}{f:Bool}{x1 x2 x3 x4:AV}(iA:k<2)(hk:Lu 2 1 ydz k (.agg [.str a,.str b])=Gr (.str s))(hs:bX s=0)(hx:bW (.agg [x1,x2,x3,x4]) (kR S))(kb:Hq 1000 (kR S)):
  ∃tm ct Z,D P L CZ ⟨[(6,.ptr 0 0),(7,.bool f),(27,.agg [.str a,.str b]),(28,aa k)],[(0,.cells ydy ydy ydy 4 [x1,x2,x3,x4])],1,0⟩=Gr (.normal,⟨tm,Z,ct,0⟩)/\bB [6,7,27,28] ⟨tm,Z,ct,0⟩=⟨[(6,.ptr 0 0),(7,.bool (f||gP S (aS s))),(27,.agg [.str a,.str b]),(28,aa (k+1:Nat))],[(0,.cells ydy ydy ydy 4 [x1,x2,x3,x4])],1,0⟩:=by
 obtain⟨x,e1,nF⟩:=R9 h.toCk hs;have kx:=Kv hs (yx 2400);obtain⟨y,e2,hy⟩:=Ye h.toCen.toMom.toFr' nF kx (by decide);have e3:=S8 h.toCen.toMom.toFr' nF hx (K:=2400) kx (kb.mono (by decide)) (by decide);have e4:=S8 h.toCen.toMom.toFr' hy hx (K:=2400) kx.neg (kb.mono (by decide)) (by decide);have c3:=VH (aS s) (kR S);have c4:=VH (-aS s) (kR S);have g:=hx.f4;obtain⟨y1,y2,y3,y4,rfl,gy⟩:=hy.gen;obtain⟨u1,u2,u3,u4,rfl,gu⟩:=nF.gen;have ask:bT (aa k)=Gr k:=rfl;have JF:(k:Int)<2:=by omega
 have wk:IntKind.wrap .i64 ((k:Int)+1)=((k+1:Nat):Int):=wrap64 (by omega) (by omega);unfold gP;unfold ab at e1 e2 e3 e4;generalize jO (aS s) (kR S)=q1 at*
 generalize jO (-aS s) (kR S)=q2 at*
 generalize rb:decide (kR S<aS s)=d1 at*
 generalize jC:decide (kR S< -aS s)=d2 at*
 have NV:decide (q1>0)=d1:=c3;have c4':decide (q2>0)=d2:=c4
 cases f with
 | true=>
  simp only[go_sem,ya,yb,CZ,JF,ask,hk,e1,bh,aQ,gu.st];exact⟨_,_,_,rfl,by simp only[go_sem,ya,yb,wk,aq,uN]<;>rfl⟩
 | false=>
  cases d1 with
  | true=>
   simp only[go_sem,ya,yb,CZ,JF,ask,hk,e1,bh,aQ,gu.st,yg,mX,gu.ah,g.ah,e3,NV];exact⟨_,_,_,rfl,by simp only[go_sem,ya,yb,wk,aq,uN,ybd]<;>rfl⟩
  | false=>
   simp only[go_sem,ya,yb,CZ,JF,ask,hk,e1,bh,aQ,gu.st,yg,mX,gu.ah,g.ah,gy.ah,e3,NV,e2,e4,c4'];exact⟨_,_,_,rfl,by simp only[go_sem,ya,yb,wk,aq,vT]<;>rfl⟩
def P6{S i:Nat}(hS:S<=8)(hi:i<=8):Hq 1000 (qM S i):=(af2 hS hi).mono (by decide)
def ajC(h:Bk P L){C R S:Nat}(hS:S<=8)(NW:1<=S){a b:List Nat}(ha:a.length<=1000000)(hb:b.length<=1000000):ab P L 694 [.agg [aa C,aa R,aa S],.agg [.str a,.str b]] (aa (FQ S a b)):=by
 have e1:=Tf h.toAvg.toCtd.toCk (s:=a) (by omega);have e2:=Tf h.toAvg.toCtd.toCk (s:=b) (by omega);have e3:=AW (P:=P) (L:=L) h.toFrc.AX (eP ydy [bX a,bX b]) (by simp);simp only[yB,yM,ye,yb,yV,wJ] at e3;have cL:∀(hp:Hp) (n:Nat) (a b:Int),freeze (n+20) hp (.au ydy 2 [aa a,aa b])=Gr (.au ydy 2 [aa a,aa b],hp):=fun hp n a b=>(eP ydy [a,b]).ah (n+19)
 have fz:=nA;have Ig:∀id,nY 2 1 0 (.ptr id 0)=Gr (.ptr id 0):=fun _=>rfl
 have Ih:∀id,nY 2 1 1 (.ptr id 0)=Gr (.ptr id 1):=fun _=>rfl
 have js:∀ct,lJ ct 2 [AV.str a,.str b]=Gr (.ptr ct 0,.cells ydy ydy ydy 2 [.str a,.str b]):=fun _=>rfl
 obtain⟨x,e4,hx⟩:=ajs (P:=P) h.toCen.toMom.toFr' h.toCen.toMom.Sh (C:=C) (R:=R) hS (i:=S-1) (by omega);have wS:IntKind.wrap .i64 ((S:Int)-1)=((S-1:Nat):Int):=by rw[wrap64 (by omega) (by omega)];omega
 have kb:Hq 1000 (kR S):=P6 hS (by omega);have hx:bW x (kR S):=hx;have kD:=hx;obtain⟨x1,x2,x3,x4,rfl,g⟩:=hx.gen;unfold FQ;unfold ab at e1 e2 e3 e4;unfold ab;rw[aD h.aDW];by_cases c:bf [bX a,bX b]=0
 .rw [yE c];obtain⟨ca,cb⟩:=Kw.1 c;rw[c] at e3;have key:=fK P L [6,7,27,28] CZ
   (fun d st=>∃(k:Nat) (f:Bool),k+d=2/\st=⟨[(6,.ptr 0 0),(7,.bool f),(27,.agg [.str a,.str b]),(28,aa k)],[(0,.cells ydy ydy ydy 4 [x1,x2,x3,x4])],1,0⟩/\(k=0->f=ydz)/\(k=1->f=gP S (aS a))/\(k=2->f=(gP S (aS a)||gP S (aS b))))
   (fun ex st=>∃tm ct hp,st=⟨tm,hp,ct,0⟩/\ex=.exit 0/\bD tm [7]=[(7,.bool (gP S (aS a)||gP S (aS b)))]) (by
    rintro d st ⟨k,f,hkd,rfl,f0,f1,f2⟩;have Th:k=0\/k=1\/k=2:=by omega
    rcases Th with rfl | rfl | rfl
    .left
     obtain⟨tm,ct,Z,q1,q2⟩:=ajB h.toCtd (S:=S) (a:=a) (b:=b) (s:=a) (k:=0) (f:=f) (by decide) rfl ca kD kb;refine⟨_,d-1,q1,by omega,1,_,by omega,q2,fun q=>absurd q (by decide),fun _=>?_,fun q=>absurd q (by decide)⟩;rw[f0 rfl,vT]
    .left
     obtain⟨tm,ct,Z,q1,q2⟩:=ajB h.toCtd (S:=S) (a:=a) (b:=b) (s:=b) (k:=1) (f:=f) (by decide) rfl cb kD kb;refine⟨_,d-1,q1,by omega,2,_,by omega,q2,fun q=>absurd q (by decide),fun q=>absurd q (by decide),fun _=>?_⟩;rw[f1 rfl]
    .right
     have f2:=f2 rfl;subst f2;simp only[go_sem,ya,CZ,show ¬((2:Nat):Int)<2 by decide]
     exact⟨_,_,rfl,by simp,_,_,_,rfl,rfl,by simp only[go_sem,ya]<;>rfl⟩) 2
  have e5:=nv (P:=P) (L:=L) h.toFrc.jA (gP S (aS a)||gP S (aS b)) 31;have aM:∀(hp:Hp) (ct id:Nat) (a b c d:AV),jr hp ct id 0 4 [x1,x2,x3,x4] (Gr (.cells ydy ydy ydy 4 [a,b,c,d]))=Gr (.av [],aR hp id (.cells ydy ydy ydy 4 [x1,x2,x3,x4]),ct):=g.st;unfold ab at e5;simp only[go_sem,ya,yb,yG,yq,yh,RA,js,Ig,Ih,aX,ye,yg,yL,e1,e2,eQ,e3,gY,fz,wS,e4,bh,aQ,aM,bZ];generalize hQ:D P L (.loop _ CZ) _=Q;obtain⟨ex,st,rfl,tm,ct,hp,rfl,rfl,cY⟩:=bg hQ key ⟨0,ydz,by omega,by simp only[go_sem,ya,yb,aq]<;>rfl,fun _=>rfl,fun q=>absurd q (by decide),fun q=>absurd q (by decide)⟩
  have bN:bB [7] ⟨tm,hp,ct,0⟩=⟨[(7,.bool (gP S (aS a)||gP S (aS b)))],[],0,0⟩:=by
   rw[kJ (c':=ct) (tm':=[(7,.bool (gP S (aS a)||gP S (aS b)))]) (by rw[cY];rfl)]
   simp only[go_sem,aq]<;>rfl
  simp only[go_sem,bN,e5]
 .rw [yp c];generalize bf [bX a,bX b]=q at*
  simp only[go_sem,ya,yb,yG,yq,yh,RA,gB,js,Ig,Ih,ye,yg,yL,e1,e2,eQ,e3,c]
end
end VE
end
section
namespace VE
open Go (IntKind)
def lG(S:Nat)(t:Rat)(i:Nat):Rat:=Ct (1-cB (t-qM S i))
def auH{S:Nat}(h:1<=S):wW ((S-1:Nat):Int) 2=kR S:=by
 unfold kR qM;rw[yar]
 congr 2
 omega
def arY(S:Nat)(t:Rat):gP S t=decide (kR S<cB t):=by
 unfold gP cB;by_cases h:t<0
 .rw [yE h];by_cases h2:kR S< -t
  .rw [yN h2,ybd]
  .rw [yC h2,Bool.or_false];refine yC fun q=>h2 ?_
   grind
 .rw [yp h];by_cases h2:kR S<t
  .rw [yN h2,uN]
  .rw [yC h2,vT];refine yC fun q=>h2 ?_
   grind
def VK{a:Rat}{K:Nat}(h:Hq K a):Hq K (cB a):=by
 unfold cB
 split
 .exact h.neg
 .exact h
def mJ(v:AV)(ps:List (List Nat×List Nat)):Prop:=gC 2 v (ps.map fun p=>[AV.str p.1,.str p.2])
noncomputable def mb(S:Nat)(ps:List (List Nat×List Nat)):Int:=bf (ps.map fun p=>FQ S p.1 p.2)
structure JG(P:aF)(L:Lib):Prop extends Rvg P L where
 MK:Has P L 449 HK
 Xb:Has P L 647 HL
 Sj:Has P L 769 HP
 ajD:Has P L 775 RI
 aDX:Has P L 776 XN
 aDY:Has P L 793 XP
 YX:Has P L 801 RJ
section
variable {P:aF}{L:Lib}
def ajE(h:JG P L){C R S i:Nat}{t:Rat}{K:Nat}(hS:S<=8)(hi:i<=8)(kt:Hq K t)(hK:K<=2400):ab P L 793 [.agg [aa C,aa R,aa S],aa i,.str (RT t)] (.str (RT (lG S t i))):=by
 have e1:=aDO (P:=P) (L:=L) h.toRm h.YX (C:=C) (R:=R) hS hi;have kc:=P6 hS hi;have e2:=QA h.toRp kt kc (by omega);have ks:=kt.sub kc;have e3:=ahF h.toRm ks (by omega);have ka:Hq (K+1000+1) (cB (t-qM S i)):=VK ks;have h1:RT (1:Rat)=[49]:=by decide
 have k1:Hq 10 (1:Rat):=⟨by decide,by decide⟩;have e4:=QA h.toRp k1 ka (by omega);rw[h1] at e4;have e5:=aAJ h.toRp h.toFz.oA h.MK (a:=1) (l:=cB (t-qM S i)) (K:=4000) (k1.mono (by decide)) (ka.mono (by omega)) (by decide);have fz:=nA;unfold lG;unfold ab at e1 e2 e3 e4 e5;unfold ab;rw[aD h.aDY];simp only[go_sem,ya,yb,XP,gB,yg,gY,fz,e1,e2,e3,e4,e5]
def ajF(h:JG P L){v:AV}{a b s:List Nat}{rest:List AV}{C R S i k:Nat}(pv:aV v=ydy)(hS:S<=8)(NW:1<=S)(hi:i<=1000000)(e0:jb 2 i v=Gr (.bA (.str a:: .str b::rest)))(iA:k<2)(hk:∃r,nY 2 1 k (.bA (.str a:: .str b::rest))=Gr (.bA (.str s::r)))(hs:bX s=0):
  ∃ex tm ct,D P L EV ⟨[(1,v),(2,.ptr 0 0),(5,aa i),(7,aa k)],[(0,bM C R S)],1,0⟩=Gr (ex,⟨tm,[(0,bM C R S)],ct,0⟩)/\((gP S (aS s)=ydy/\ex=.ret/\ai tm 4=aa 31)\/(gP S (aS s)=ydz/\ex=.normal/\bD tm [1,2,5,7]=[(1,v),(2,.ptr 0 0),(5,aa i),(7,aa (k+1:Nat))])):=by
 obtain⟨r,hk⟩:=hk;obtain⟨hR,_⟩:=CO hs;have ks:=Kv hs (yx 2400);have e1:=ahF h.toRm ks (by decide);rw[<-hR] at e1;have e2:=Qy h.toRm (a:=((S-1:Nat):Int)) (b:=2) (by omega) (by omega);rw[auH NW] at e2;have kb:Hq 1000 (kR S):=P6 hS (by omega);have e3:=ahB h.toRp h.toFz.oA (VK ks) kb (by decide);have c3:=VH (cB (aS s)) (kR S);rw[<-arY] at c3;have wS:IntKind.wrap .i64 ((S:Int)-1)=((S-1:Nat):Int):=by rw[wrap64 (by omega) (by omega)];omega
 have wk:IntKind.wrap .i64 ((k:Int)+1)=((k+1:Nat):Int):=wrap64 (by omega) (by omega);have ask:bT (aa k)=Gr k:=rfl;have dn:bT (aa i)=Gr i:=rfl;have JF:(k:Int)<2:=by omega
 unfold ab at e1 e2 e3;generalize jO (cB (aS s)) (kR S)=q at*
 generalize gP S (aS s)=f at*
 have NV:decide (q>0)=f:=c3
 cases f with
 | true=>
  simp only[go_sem,ya,EV,bM,JF,dn,e0,ask,hk,e1,aX,ye,yg,yL,wS,e2,e3,NV];exact⟨_,_,_,rfl,.inl ⟨by simp,rfl,by simp only[go_sem]⟩⟩
 | false=>
  simp only[go_sem,ya,EV,bM,JF,dn,e0,ask,hk,e1,aX,ye,yg,yL,wS,e2,e3,NV,wk];exact⟨_,_,_,rfl,.inr ⟨by simp,rfl,by simp only[go_sem,ya]<;>rfl⟩⟩
def aDZ(h:JG P L){v:AV}{ps:List (List Nat×List Nat)}{C R S:Nat}(hv:mJ v ps)(hl:ps.length<=1000000)(hs:∀p,p∈ps->p.1.length<=1000000/\p.2.length<=1000000)(hC:C<=8)(hR:R<=8)(hS:S<=8)(NW:1<=S):ab P L 775 [.agg [aa C,aa R,aa S],v] (aa (if ps.length=C*R then mb S ps else 2)):=by
 have hv:gC 2 v (ps.map fun p=>[AV.str p.1,.str p.2]):=hv;have lv:∀hp,gF hp 1 v=Gr (.int .i64 (ps.length:Nat)):=fun hp=>by have:=hv.len (hp:=hp);rwa[yU] at this
 have m1:(C:Int)*(R:Int)=((C*R:Nat):Int):=by rw[xx]
 have JD:C*R<=64:=yZ hC hR;have w0:IntKind.wrap .i64 ((C*R:Nat):Int)=((C*R:Nat):Int):=wrap64 (by omega) (by omega);by_cases hn:ps.length=C*R
 .rw [yE hn];have key:=fK P L [1,2,5] Ha
   (fun d st=>∃i:Nat,i+d=ps.length/\bf ((ps.drop i).map fun p=>FQ S p.1 p.2)=mb S ps/\st=⟨[(1,v),(2,.ptr 0 0),(5,aa i)],[(0,bM C R S)],1,0⟩)
   (Q:=fun ex st=>∃tm hp ct,st=⟨tm,hp,ct,0⟩/\((ex=.ret/\ai tm 4=aa (mb S ps))\/(ex=.exit 0/\mb S ps=0))) (by
    rintro d st ⟨i,hid,hf,rfl⟩;by_cases hi:i<ps.length
    .obtain ⟨rest,e0⟩:=hv.bj (i:=i) (by simpa using hi);rw[vz] at e0;obtain⟨k1,k2⟩:=hs _ (xq hi);rw[yS hi,yV] at hf;simp only[bf] at hf;generalize (ps[i]).1=a at*
     generalize (ps[i]).2=b at*
     have e1:=Yz h.toRm (s:=a) (by omega);have e2:=Yz h.toRm (s:=b) (by omega);have e3:ab P L 647 [.au ydy 2 [aa (bX a),aa (bX b)]] (aa (bf [bX a,bX b])):=YM (P:=P) (L:=L) h.toRfc.YU (eP ydy [bX a,bX b]) (by simp);have cL:∀(hp:Hp) (n:Nat) (a b:Int),freeze (n+20) hp (.au ydy 2 [aa a,aa b])=Gr (.au ydy 2 [aa a,aa b],hp):=fun hp n a b=>(eP ydy [a,b]).ah (n+19)
     have eD:(i:Int)<ps.length:=by omega
     have dn:bT (aa i)=Gr i:=rfl;have wi:IntKind.wrap .i64 ((i:Int)+1)=((i+1:Nat):Int):=wrap64 (by omega) (by omega);have kD:∀(a b:AV) (r:List AV),nY 2 1 0 (.bA (a::b::r))=Gr (.bA (a::b::r)):=fun _ _ _=>rfl
     have Cw:∀(a b:AV) (r:List AV),nY 2 1 1 (.bA (a::b::r))=Gr (.bA (b::r)):=fun _ _ _=>rfl
     have aM:FQ S a b=if bf [bX a,bX b]=0 then (if (gP S (aS a)||gP S (aS b))=ydy then 31 else 0) else bf [bX a,bX b]:=rfl
     simp only[xe,xt] at e0;unfold ab at e1 e2 e3;by_cases c:bf [bX a,bX b]=0
     .obtain ⟨ca,cb⟩:=Kw.1 c;rw[yE c] at aM;rw[c] at e3;have key:=fK P L [1,2,5,7] EV
       (fun d st=>∃k:Nat,k+d=2/\(1<=k->gP S (aS a)=ydz)/\(2<=k->gP S (aS b)=ydz)/\st=⟨[(1,v),(2,.ptr 0 0),(5,aa i),(7,aa k)],[(0,bM C R S)],1,0⟩)
       (Q:=fun ex st=>∃tm ct,st=⟨tm,[(0,bM C R S)],ct,0⟩/\((ex=.ret/\(gP S (aS a)||gP S (aS b))=ydy/\ai tm 4=aa 31)\/(ex=.exit 2/\(gP S (aS a)||gP S (aS b))=ydz/\bD tm [1,2,5]=[(1,v),(2,.ptr 0 0),(5,aa i)]))) (by
        rintro d st ⟨k,hkd,f1,f2,rfl⟩;have Th:k=0\/k=1\/k=2:=by omega
        have ajG:∀(k:Nat) (tm:Env) (ct:Nat),bD tm [1,2,5,7]=[(1,v),(2,.ptr 0 0),(5,aa i),(7,aa k)]->bB [1,2,5,7] ⟨tm,[(0,bM C R S)],ct,0⟩=⟨[(1,v),(2,.ptr 0 0),(5,aa i),(7,aa k)],[(0,bM C R S)],1,0⟩:=fun k tm ct hk=>by
         rw[kJ (c':=ct) (tm':=[(1,v),(2,.ptr 0 0),(5,aa i),(7,aa k)]) (by rw[hk];rfl)]
         simp only[go_sem,ya,yb,aq,bM,aC hv.pu]<;>rfl
        rcases Th with rfl | rfl | rfl
        .obtain ⟨ex,tm,ct,q1,q2⟩:=ajF h (C:=C) (R:=R) (k:=0) hv.pu hS NW (by omega) e0 (by decide) ⟨_,kD _ _ _⟩ ca;rcases q2 with ⟨g1,rfl,g2⟩ | ⟨g1,rfl,g2⟩
         .exact .inr ⟨_,_,q1,by simp,_,_,rfl,.inl ⟨rfl,by rw[g1];rfl,g2⟩⟩
         .exact .inl ⟨_,d-1,q1,by omega,1,by omega,fun _=>g1,fun q=>absurd q (by decide),ajG 1 tm ct g2⟩
        .obtain ⟨ex,tm,ct,q1,q2⟩:=ajF h (C:=C) (R:=R) (k:=1) hv.pu hS NW (by omega) e0 (by decide) ⟨_,Cw _ _ _⟩ cb;rcases q2 with ⟨g1,rfl,g2⟩ | ⟨g1,rfl,g2⟩
         .exact .inr ⟨_,_,q1,by simp,_,_,rfl,.inl ⟨rfl,by rw[g1,ybd],g2⟩⟩
         .exact .inl ⟨_,d-1,q1,by omega,2,by omega,fun _=>f1 (by decide),fun _=>g1,ajG 2 tm ct g2⟩
        .right
         simp only[go_sem,ya,EV,show ¬((2:Nat):Int)<2 by decide]
         exact⟨_,_,rfl,by simp,_,_,rfl,.inr ⟨rfl,by rw[f1 (by decide),f2 (by decide)];rfl,by simp only[go_sem,ya]<;>rfl⟩⟩) 2
      simp only[go_sem,ya,yb,yG,yq,yh,Ha,bM,lv,eD,dn,e0,kD,Cw,e1,e2,eQ,e3];generalize hQ:D P L (.loop _ EV) _=Q;obtain⟨ex,st,rfl,tm,ct,rfl,hh⟩:=bg hQ key ⟨0,by omega,fun q=>absurd q (by decide),fun q=>absurd q (by decide),by simp only[go_sem,ya,yb,aq,bM,aC hv.pu]<;>rfl⟩
      rcases hh with ⟨rfl,Y6,t4⟩ | ⟨rfl,Y6,cY⟩
      .right
       rw[Y6,yE rfl] at aM;rw[aM,yp (by decide)] at hf;simp only[go_sem];exact⟨_,_,rfl,by simp,_,_,_,rfl,.inl ⟨rfl,by rw[t4,hf]⟩⟩
      .left
       rw[Y6,yp (by decide)] at aM;rw[aM,yE rfl] at hf;have bN:bB [1,2,5] ⟨tm,[(0,bM C R S)],ct,0⟩=⟨[(1,v),(2,.ptr 0 0),(5,aa i)],[(0,bM C R S)],1,0⟩:=by
        rw[kJ (c':=ct) (tm':=[(1,v),(2,.ptr 0 0),(5,aa i)]) (by rw[cY];rfl)]
        simp only[go_sem,ya,yb,aq,bM,aC hv.pu]<;>rfl
       simp only[go_sem,ya,bN,wi];exact⟨_,d-1,rfl,by omega,i+1,by omega,hf,by simp only[go_sem,ya,yb,aq,bM,aC hv.pu]<;>rfl⟩
     .right
      rw[yp c] at aM;rw[aM,yp c] at hf;generalize bf [bX a,bX b]=q at*
      simp only[go_sem,ya,yb,yG,yq,yh,Ha,bM,lv,eD,dn,e0,kD,Cw,e1,e2,eQ,e3,c];exact⟨_,_,rfl,by simp,_,_,_,rfl,.inl ⟨rfl,by simp only[go_sem,hf]⟩⟩
    .right
     have oK:i=ps.length:=by omega
     subst oK;rw[xb (yx _)] at hf;simp only[go_sem,ya,Ha,lv,show ¬(ps.length:Int)<ps.length by omega]
     exact⟨_,_,rfl,by simp,_,_,_,rfl,.inr ⟨rfl,hf.symm⟩⟩) ps.length
  unfold ab;rw[aD h.ajD];simp only[go_sem,ya,RI,gB,lv,aX,ye,yg,yL,m1,w0,hn,yv,yO];generalize hQ:D P L (.loop _ Ha) _=Q;obtain⟨ex,st,rfl,tm,hp,ct,rfl,hh⟩:=bg hQ key ⟨0,by omega,by unfold mb;simp,by simp only[go_sem,ya,yb,aq,bM,aC hv.pu]<;>rfl⟩
  rcases hh with ⟨rfl,t4⟩ | ⟨rfl,hz⟩
  .simp only [go_sem,t4]
  .rw [hz];simp only[go_sem,aq]
 .rw [yp hn];unfold ab;rw[aD h.ajD];simp only[go_sem,ya,RI,gB,lv,aX,ye,yg,yL,m1,w0,show ¬(ps.length:Int)=((C*R:Nat):Int) by omega,yu,yY]
end
end VE
end
section
namespace VE
open Go (IntKind)
section
variable {C R S x y:Nat}
def Ap{s:List Nat}(h:bX s=0)(hl:s.length<=40):Hq 164 (aS s):=by
 obtain⟨h1,_,_⟩:=CO h;generalize aS s=r at*
 have hlen:(RT r).length<=40:=by rw[<-h1];exact hl
 unfold RT at hlen;rw[yW] at hlen;have hn:(az r.num.natAbs).length<=40:=by
  have:(az r.num.natAbs).length<=(bc r.num).length:=by
   unfold bc;cases r.num<;>simp
  omega
 refine⟨OM hn (by decide),OM (z:=(r.den:Int)) (k:=41) ?_ (by decide)⟩;rw[xG];by_cases hd:r.den=1
 .rw [hd];decide
 .rw [yp hd,yB] at hlen;omega
def GM{i:Nat}{t:Rat}(hS:S<=8)(hi:i<=8)(kt:Hq 164 t):Hq 300 (lG S t i):=by
 have ks:=VK (kt.sub (af2 hS hi));have k1:Hq 10 (1:Rat):=⟨by decide,by decide⟩;exact (aAF (k1.sub ks)).mono (by decide)
noncomputable def jS(C S:Nat)(lt:Rat)(ps:List (List Nat×List Nat))(x y:Nat):Rat:=lt*(lG S (aS (ps.getD (y/S*C+x/S) ([],[])).1) (x%S)*lG S (aS (ps.getD (y/S*C+x/S) ([],[])).2) (y%S))
noncomputable def iX(C S:Nat)(lt:Rat)(ps:List (List Nat×List Nat))(W y:Nat):List Rat:=(wR W).map fun x=>jS C S lt ps x y
noncomputable def iF(C S:Nat)(lt:Rat)(ps:List (List Nat×List Nat))(W H:Nat):List (List Rat):=(wR H).map fun y=>iX C S lt ps W y
def rR(C S:Nat)(lt:Rat)(ps:List (List Nat×List Nat))(W y:Nat):(iX C S lt ps W y).length=W:=by simp[iX]
def PM(C S:Nat)(lt:Rat)(ps:List (List Nat×List Nat))(W H:Nat):(iF C S lt ps W H).length=H:=by simp[iF]
def arZ{lt:Rat}{ps:List (List Nat×List Nat)}{W:Nat}(h:x<W):(iX C S lt ps W y).take (x+1)=(iX C S lt ps W y).take x++[jS C S lt ps x y]:=by
 rw[xn (by rw[rR];exact h)];simp[iX]
def AZ(ps:List (List Nat×List Nat)):Prop:=∀p,p∈ps->bX p.1=0/\bX p.2=0/\p.1.length<=40/\p.2.length<=40
def Xc(hS:0<S)(hx:x<C*S)(hy:y<R*S):y/S*C+x/S<C*R/\x%S<S/\y%S<S/\x/S<C/\y/S<R:=by
 have h1:x/S<C:=tY (by rw[xg];exact hx)
 have h2:y/S<R:=tY (by rw[xg];exact hy)
 refine⟨?_,xE _ hS,xE _ hS,h1,h2⟩
 have:=yX C (show y/S+1<=R from h2)
 rw[we,yah] at this;rw[xg C R];omega
def ahJ{lt:Rat}{ps:List (List Nat×List Nat)}(eM:0<S)(hS:S<=8)(hl:ps.length=C*R)(hp:AZ ps)(kl:Hq 164 lt)(hx:x<C*S)(hy:y<R*S):Hq 800 (jS C S lt ps x y):=by
 obtain⟨h1,h2,h3,_,_⟩:=Xc (R:=R) eM hx hy;obtain⟨q1,q2,q3,q4⟩:=hp _ (xq (show y/S*C+x/S<ps.length by omega));unfold jS;rw[zD _ (show y/S*C+x/S<ps.length by omega)];exact (kl.mul ((GM hS (by omega) (Ap q1 q3)).mul (GM hS (by omega) (Ap q2 q4)))).mono (by decide)
section
variable {P:aF}{L:Lib}
def ayV(h:JG P L){v:AV}{ps:List (List Nat×List Nat)}{lt:List Nat}(hv:mJ v ps)(hl:ps.length=C*R)(hp:AZ ps)(aG:bX lt=0)(kS:lt.length<=40)(hC:C<=8)(hR:R<=8)(eM:0<S)(hS:S<=8)(hy:y<R*S){rows:List AV}:
  cE P L [1,2,3,8,9,10,11] C2 (fun d st=>∃x,x+d=C*S/\st=⟨[(1,v),(2,.str lt),(3,.ptr 0 0),(8,oV 1 y),(9,aa y),(10,oV (oC 1 y) x),(11,aa x)],tH C R S y x rows (fE ((iX C S (aS lt) ps (C*S) y).take x)),oC (oC 1 y) x,0⟩) (fun ex s'=>∃tm ct,s'=⟨tm,tH C R S y (C*S) rows (fE (iX C S (aS lt) ps (C*S) y)),ct,0⟩/\ex=.exit 2/\bD tm [1,2,3,8,9,10]=[(1,v),(2,.str lt),(3,.ptr 0 0),(8,oV 1 y),(9,aa y),(10,oV (oC 1 y) (C*S))]):=by
 have cl:gC 2 v (ps.map fun p=>[AV.str p.1,.str p.2]):=hv;apply cI;rintro d st ⟨x,hxd,rfl⟩;have Cu:C*S<=64:=yZ hC hS;have Cv:R*S<=64:=yZ hR hS;have m1:(C:Int)*(S:Int)=((C*S:Nat):Int):=by rw[xx]
 have w0:IntKind.wrap .i64 ((C*S:Nat):Int)=((C*S:Nat):Int):=wrap64 (by omega) (by omega);by_cases hx:x<C*S
 .left
  obtain⟨h1,h2,h3,h4,h5⟩:=Xc (R:=R) eM hx hy;have JD:C*R<=64:=yZ hC hR;have Y7:y/S*C+x/S<ps.length:=by omega
  obtain⟨rest,e0⟩:=cl.bj (i:=y/S*C+x/S) (by simpa using Y7);rw[vz] at e0;obtain⟨q1,q2,q3,q4⟩:=hp _ (xq Y7);have gJ:jS C S (aS lt) ps x y=aS lt*(lG S (aS (ps[y/S*C+x/S]).1) (x%S)*lG S (aS (ps[y/S*C+x/S]).2) (y%S)):=by unfold jS;rw[zD _ Y7]
  generalize (ps[y/S*C+x/S]).1=a at*
  generalize (ps[y/S*C+x/S]).2=b at*
  simp only[xe,xt] at e0;have ka:=Ap q1 q3;have kb:=Ap q2 q4;have kl:=Ap aG kS;have e1:=ajE h (C:=C) (R:=R) (i:=x%S) hS (by omega) ka (by decide);have e2:=ajE h (C:=C) (R:=R) (i:=y%S) hS (by omega) kb (by decide);rw[<-(CO q1).1] at e1;rw[<-(CO q2).1] at e2;have kp1:=GM (i:=x%S) hS (by omega) ka;have kp2:=GM (i:=y%S) hS (by omega) kb;have e3:=Dj h.toRn kp1 kp2 (by decide);have e4:=Dj h.toRn kl (kp1.mul kp2) (by decide);rw[<-(CO aG).1,<-gJ] at e4;have Gk:fE ((iX C S (aS lt) ps (C*S) y).take (x+1))=fE ((iX C S (aS lt) ps (C*S) y).take x)++[.str (RT (jS C S (aS lt) ps x y))]:=by rw[arZ hx];simp[fE]
  have lc:(fE ((iX C S (aS lt) ps (C*S) y).take x)).length=x:=by rw[PL,yP,rR,xo (by omega)]
  have n0:(S:Int)≠0:=by omega
  have mx:(x:Int).tmod (S:Int)=((x%S:Nat):Int):=(yaN _ _).symm;have my:(y:Int).tmod (S:Int)=((y%S:Nat):Int):=(yaN _ _).symm;have dx:(x:Int).tdiv (S:Int)=((x/S:Nat):Int):=(yaO _ _).symm;have dy:(y:Int).tdiv (S:Int)=((y/S:Nat):Int):=(yaO _ _).symm;have hyC:y/S*C<=64:=xi (yZ (show y/S<=8 by omega) hC) (by decide);generalize hxm:x%S=xm at*
  generalize hym:y%S=ym at*
  generalize aD0:x/S=xd at*
  generalize aD1:y/S=yd at*
  have wxm:IntKind.wrap .i64 (xm:Int)=xm:=wrap64 (by omega) (by omega);have wym:IntKind.wrap .i64 (ym:Int)=ym:=wrap64 (by omega) (by omega);have wxd:IntKind.wrap .i64 (xd:Int)=xd:=wrap64 (by omega) (by omega);have wyd:IntKind.wrap .i64 (yd:Int)=yd:=wrap64 (by omega) (by omega);have wm:IntKind.wrap .i64 ((yd:Int)*(C:Int))=((yd*C:Nat):Int):=by rw[<-xx];exact wrap64 (by omega) (by omega)
  have wm0:(yd:Int)*(C:Int)=((yd*C:Nat):Int):=by rw[xx]
  have wa:IntKind.wrap .i64 (((yd*C:Nat):Int)+(xd:Int))=((yd*C+xd:Nat):Int):=by rw[<-yak];exact wrap64 (by omega) (by omega)
  have wx:IntKind.wrap .i64 ((x:Int)+1)=((x+1:Nat):Int):=wrap64 (by omega) (by omega);have de:(x:Int)<((C*S:Nat):Int):=by omega
  have dn:bT (aa (yd*C+xd:Nat))=Gr (yd*C+xd):=rfl;have fz:=nA;have lP:∀(hp:Hp) (a b:AV) (r:List AV),gH hp 2 ydy (.bA (a::b::r))=Gr (.agg [a,b]):=fun _ _ _ _=>rfl
  have Ig:∀id,nY 2 1 0 (.ptr id 0)=Gr (.ptr id 0):=fun _=>rfl
  have Ih:∀id,nY 2 1 1 (.ptr id 0)=Gr (.ptr id 1):=fun _=>rfl
  have zK:∀(hp:Hp) (ct id:Nat) (a b:List Nat),jr hp ct id 0 2 [AV.str a,.str b] (Gr (.cells ydy ydy ydy 2 [AV.str [],.str []]))=Gr (.av [],aR hp id (.cells ydy ydy ydy 2 [AV.str a,.str b]),ct):=fun _ _ _ _ _=>rfl
  have js:∀ct,lJ ct 2 [AV.str [],.str []]=Gr (.ptr ct 0,.cells ydy ydy ydy 2 [AV.str [],.str []]):=fun _=>rfl
  have ia:∀(tm:Env) (s:List Nat),lD tm [AV.str []] 0 1 [.str s] []=Gr [.str s]:=fun _ _=>rfl
  have iq:∀(cf pu ex:Bool) (a:AV),pG 0 1 1 (Gr (.cells cf pu ex 1 [a]))=Gr (1,[a]):=fun _ _ _ _=>rfl
  have dX:∀s:List Nat,cellsOf (.str s)=[.str s]:=fun _=>rfl
  have mj:∀a b:List Nat,cellsOf (.agg [.str a,.str b])=[.str a,.str b]:=fun _ _=>rfl
  unfold ab at e1 e2 e3 e4;generalize RT (jS C S (aS lt) ps x y)=z at*
  generalize RT (lG S (aS a) xm)=z1 at*
  generalize RT (lG S (aS b) ym)=z2 at*
  generalize RT (lG S (aS a) xm*lG S (aS b) ym)=z3 at*
  cases x with
  | zero=>
   have gI:fE ((iX C S (aS lt) ps (C*S) y).take 1)=[.str z]:=Gk
   cases y with
   | zero=>
    obtain rfl:xd=yd:=aD0.symm.trans aD1;obtain rfl:xm=ym:=hxm.symm.trans hym;simp only[oV,oH,oC,tH];simp only[go_sem,ya,yb,xv,yG,yq,yh,C2,bM,aX,ye,yg,yL,m1,w0,de,eU _ _ _ n0,eO _ _ _ n0,mx,dx,wxd,wm,wa,dn,e0,lP,js,mj,zK,Ig,Ih,gY,fz,e1,e2,e3,e4,dX,ia,eQ,kL,kK,iq,gL,wx];refine⟨_,d-1,rfl,by omega,1,by omega,?_⟩;rw[gI];simp only[go_sem,ya,yb,aq,aC cl.pu]<;>rfl
   | succ y=>
    simp only[oV,oH,oC,tH];simp only[go_sem,ya,yb,xv,yG,yq,yh,C2,bM,aX,ye,yg,yL,m1,w0,de,eU _ _ _ n0,eO _ _ _ n0,mx,my,dx,dy,wxd,wyd,wm,wa,dn,e0,lP,js,mj,zK,Ig,Ih,gY,fz,e1,e2,e3,e4,dX,ia,eQ,kL,kK,iq,gL,wx];refine⟨_,d-1,rfl,by omega,1,by omega,?_⟩;rw[gI];simp only[go_sem,ya,yb,aq,aC cl.pu]<;>rfl
  | succ x=>
   have iQ:=fun (hp:Hp) (ct id:Nat) (z:List Nat) (hg:ak hp id=Gr (.cells ydy ydy ydz 1 (fE ((iX C S (aS lt) ps (C*S) y).take (x+1)))))=>ff (ct:=ct) (by':=16) (new:=[AV.str z]) (m:=1) (n:=x+1) hg (by rw[lc,yh]) (by omega) (by omega) (by decide) rfl
   cases y
   all_goals
    simp only[oV,oH,oC,tH];simp only[go_sem,ya,yb,yh,C2,bM,aX,ye,yg,yL,m1,w0,de,eU _ _ _ n0,eO _ _ _ n0,mx,my,dx,dy,wxd,wyd,wm,wa,dn,e0,lP,js,mj,zK,Ig,Ih,gY,fz,e1,e2,e3,e4,dX,ia,eQ,kL,kK,iq,iQ,wx,wg];refine⟨_,d-1,rfl,by omega,x+1+1,by omega,?_⟩;rw[Gk];simp only[go_sem,ya,yb,aq,aC cl.pu]<;>rfl
 .right
  have hxm:x=C*S:=by omega
  subst hxm;rw[yK (by rw[rR];exact yx _)]
  have de:¬((C*S:Nat):Int)<((C*S:Nat):Int):=by omega
  generalize C*S=m at*
  cases y<;>cases m
  all_goals
   simp only[oV,oH,oC,tH];simp only[go_sem,ya,yb,C2,bM,aX,ye,yg,yL,m1,w0,de];exact⟨_,_,rfl,by simp,_,_,rfl,rfl,by simp only[go_sem,ya]<;>rfl⟩
end
end
end VE
end
