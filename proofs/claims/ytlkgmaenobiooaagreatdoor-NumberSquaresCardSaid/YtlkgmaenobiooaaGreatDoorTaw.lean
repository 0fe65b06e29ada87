import Derived.Test.YtlkgmaenobiooaaGreatDoorTav
import Derived.Test.YtlkgmaenobiooaaGreatDoorTas
import Derived.Test.YtlkgmaenobiooaaGreatDoorTat
set_option linter.all false
set_option maxRecDepth 100000
open Bool renaming and_true→tM,false_eq_true→yE
open Int renaming gcd→wq,le_of_lt→uf,mul_add→ybX,mul_le_mul_of_nonneg_left→vK,mul_nonneg→tD,natAbs_ediv_of_dvd→vT,natCast_add→yaW,natCast_mul→xE,natCast_nonneg→tx,neg_neg→ybG,ofNat_eq_natCast→yak,ofNat_lt→ue,pow_pos→ybY,pow_succ→uP,tdiv_eq_ediv_of_nonneg→xX,tmod_eq_emod_of_nonneg→wc,toNat_natCast→xC
open Int.ofNat renaming inj→uY
open List renaming append_assoc→xD,append_nil→wG,cons_append→xk,drop_drop→vG,drop_eq_getElem_cons→yX,drop_eq_nil_of_le→xn,drop_left→uN,drop_zero→ye,eq_nil_of_length_eq_zero→yN,getD_eq_getElem?_getD→wA,getElem?_eq_getElem→vl,getElem_cons_zero→wF,length_append→yU,length_cons→yx,length_drop→wm,length_map→xq,length_nil→yJ,length_pos_iff→uT,length_take→yR,map_append→xR,map_cons→xi,map_nil→wH,nil_append→xZ,replicate→yF,set_eq_of_length_le→tI,take_append_drop→xS,take_left→uM,take_length→xW,take_of_length_le→yK,take_set→tJ
open List.cons renaming injEq→vU
open Nat renaming add_comm→yaR,add_zero→yW,div_add_mod→xM,div_eq_of_lt→wj,div_lt_iff_lt_mul→wi,eq_zero_or_pos→xj,gcd→wu,gcd_comm→uG,le_of_lt_succ→tF,le_refl→yA,le_trans→yS,lt_of_lt_of_le→yO,min_eq_left→xP,mod_eq_of_lt→yP,mod_lt→xr,mul_add→xz,mul_assoc→xo,mul_comm→xB,mul_le_mul→ve,mul_le_mul_left→yT,mul_le_mul_right→yY,mul_lt_mul_of_pos_right→wJ,mul_one→yj,mul_pos→yaT,mul_zero→xG,pow_le_pow_right→xx,pow_lt_pow_iff_right→tL,pow_succ→xh,reduceAdd→yb,reduceEqDiff→ya,reduceLT→yr,reduceLeDiff→yi,reduceMul→xT,zero_add→yd
open Rat renaming divInt→xF
namespace VE
section
open Go (IntKind)
def axx (i:Nat) (q:List Int) (x:Int):(yF (i+1) (0:Int)++q).set i x=yF i 0++x::q:=by
 rw [List.replicate_succ',xD,List.set_append_right _ _ (by simp)]
 simp
section
variable {P:aJ} {L:Lib}
def aBo {v:AV} {a:List Int} (hv:bB v a) (ha:dg a) (la:a.length<=20000000000) {d:Nat} (h0:0<d) (h1:d<1000000000):
  ∀k s,(∃(j r:Nat) (q:List Int),bS [0,1,6,7,8] s=⟨[(0,v),(1,ab d),(6,.ay 0 0 a.length),(7,ab r),(8,ab ((j:Int)-1))],[(0,.cells true true true 1 ((yF j (0:Int)++q).map ab))],1,0⟩/\j=k/\j+q.length=a.length/\r<d/\dg q/\dv (a.drop j)=d*dv q+r)->
   ∃ex s',D P L (.loop [0,1,6,7,8] Lc) s=some (ex,s')/\∃tm r q,s'=⟨tm,[(0,.cells true true true 1 (q.map ab))],1,0⟩/\ex= .exit 0/\ak tm 6= .ay 0 0 a.length/\ak tm 7=ab (r:Nat)/\q.length=a.length/\r<d/\dg q/\dv a=d*dv q+r:=by
 refine cR (I:=fun k s=>∃(j r:Nat) (q:List Int),s=⟨[(0,v),(1,ab d),(6,.ay 0 0 a.length),(7,ab r),(8,ab ((j:Int)-1))],[(0,.cells true true true 1 ((yF j (0:Int)++q).map ab))],1,0⟩/\j=k/\j+q.length=a.length/\r<d/\dg q/\dv (a.drop j)=d*dv q+r)
  (Q:=fun ex s'=>∃tm r q,s'=⟨tm,[(0,.cells true true true 1 (q.map ab))],1,0⟩/\ex= .exit 0/\ak tm 6= .ay 0 0 a.length/\ak tm 7=ab (r:Nat)/\q.length=a.length/\r<d/\dg q/\dv a=d*dv q+r) ?_
 rintro k s ⟨j,r,q,rfl,rfl,hl,hr,hd,aM⟩
 cases j with
 | zero=>
  right
  simp only [go_sem,ya,Lc,show ¬(0:Int)<=((0:Nat):Int)-1 by omega];exact ⟨_,_,rfl,by simp,_,r,q,rfl,rfl,by simp only [go_sem,ya],by simp only [go_sem,ya],by omega,hr,hd,aM⟩
 | succ i=>
  left
  have hi:i<a.length:=by omega
  obtain ⟨x,hx⟩:∃x,x=a.getD i 0:=⟨_,rfl⟩;have e1:=rz hv hi;have gx:=ij ha i;rw [<-hx] at e1 gx;obtain ⟨t,ht⟩:∃t:Nat,t=r*1000000000+x.toNat:=⟨_,rfl⟩;have lK:(r:Int)*1000000000+x=(t:Int):=by omega
  have kS:t<d*1000000000:=by
   omega
  have fJ:t/d<1000000000:=(wi h0).2 (by rw [xB];exact kS)
  have eJ:t%d<d:=xr _ h0;have e2:((t:Nat):Int).tdiv d=((t/d:Nat):Int):=by rw [xX (by omega)];rfl
  have e3:((t:Nat):Int).tmod d=((t%d:Nat):Int):=by rw [wc (by omega)];rfl
  have NC:(yF (i+1) (0:Int)++q).length=a.length:=by simp;omega
  have aY:=fun (hp:Hp) (ct id:Nat) (ex:Bool)=>Dy (hp:=hp) (ct:=ct) (id:=id) (ex:=ex) (v:=((t/d:Nat):Int)) (l:=yF (i+1) (0:Int)++q) (o:=i) (by rw [NC];exact hi)
  simp only [axx] at aY
  simp only [go_sem,ya,yj,Lc,show ((i+1:Nat):Int)-1=(i:Int) by omega,show (0:Int)<=(i:Int) by omega,wrap64 (n:=(r:Int)*1000000000) (by omega) (by omega),e1,lK,wrapN (n:=t) (by omega),fq _ _ _ (show (d:Int)≠0 by omega),gF _ _ _ (show (d:Int)≠0 by omega),e2,e3,wrapN (n:=t/d) (by omega),dD 0 0 (show i<a.length from hi),yd,aY]
  refine ⟨_,i,rfl,by omega,i,t%d,((t/d:Nat):Int)::q,?_,rfl,by simp;omega,eJ,(ie (a:=[((t/d:Nat):Int)]) (b:=q)).2 ⟨kZ.2 ⟨tx _,ue.2 fJ⟩,hd⟩,?_⟩
  ·rw [wrap64 (by omega) (by omega)];simp only [go_sem,ya,yb,aH,aR hv.pu,aW _ hv.pu]<;>rfl
  ·have iE:a.drop i=x::a.drop (i+1):=by
    rw [yX hi,hx];simp [wA,vl hi]
   rw [iE];simp only [dv,aM,xC];have e:=xM t d;rw [xz,xz d,Nat.mul_left_comm 1000000000 d];omega
def anM (h:Has P L 299 CG) (cZ:Has P L 300 ma) {v:AV} {a:List Int} (hv:bB v a) (ha:dg a) (la:a.length<=20000000000) {d:Nat} (h0:0<d) (h1:d<1000000000):
  ∃r q,ai P L 299 [v,ab d] (.af [r,ab (dv a%d:Nat)])/\bB r q/\shut r=r/\b6 r=r/\dg q/\nz q/\dv q=dv a/d:=by
 obtain ⟨n,hn⟩:∃n,n=a.length:=⟨_,rfl⟩;have cV:∀ct:Nat,AH ct 1 8 [.int .i64 0] (some n) (some n)=some (.ay ct 0 n,.cells true true true 1 ((yF n (0:Int)).map ab)):=fun ct=>by
  rw [Lh (sz:=1) (by omega) (by omega) (by rfl) (by rfl),Uw];rfl
 unfold ai;rw [ax h];simp only [go_sem,ya,yb,CG,hv.len,<-hn,cV];generalize hq:D P L (.loop [0,1,6,7,8] Lc) _=q;obtain ⟨ex,s,rfl,tm,r,qs,rfl,rfl,t6,t7,hlen,hr,hd,aM⟩:=cG hq (aBo (P:=P) (L:=L) hv ha la h0 h1 a.length) ⟨a.length,0,[],by
  rw [wrap64 (by omega) (by omega),wG,<-hn]
  simp only [go_sem,ya,yb,aH,aR hv.pu,aW _ hv.pu]<;>rfl,rfl,by simp,h0,rfl,by rw [xn (yA _)];simp [dv]⟩
 have lG:=gG true qs;rw [hlen] at lG;obtain ⟨w,e1,hw,eV⟩:=CU cZ lG (by omega);have fK:dv a/d=dv qs/\dv a%d=r:=(Nat.div_mod_unique h0).2 ⟨by omega,hr⟩;refine ⟨w,et qs,?_,hw,eV,hw.b6,BP hd,Gp qs,by rw [zL,fK.1]⟩;have jo:∀hp:Hp,jR 0 a.length (some (true,1,qs.map ab,hp))=some (.ap true a.length (qs.map ab),hp):=fun hp=>q8 true (by simp [hlen]) (by decide)
 rw [fK.2];simp only [go_sem,ya,yb,aH,t6,t7,jo,e1,eV];rcases hw with ⟨rfl,_⟩ | ⟨e,rfl⟩<;>rfl
def aEz (h:Has P L 279 Hu) (Sk:Has P L 295 L7) (oN:Has P L 296 sI) (Sl:Has P L 297 L8) (mQ:Has P L 302 sJ) (iL:Has P L 294 CF) (cZ:Has P L 300 ma) {v w:AV} {n m:Int} {K:Nat} (hK:K<=8000000000) (hv:jq v n) (hw:jq w m) (hn:n.natAbs<1000000000^K) (hm:m.natAbs<1000000000^K):
  ∃r,ai P L 279 [v,w] r/\jq r (n+m):=by
 obtain ⟨x,a,rfl,hx,ha,na,va⟩:=hv;obtain ⟨y,b,rfl,hy,hb,nb,vb⟩:=hw;have la:=yS (ik ha na (by rw [va];exact hn)) hK
 have lb:=yS (ik hb nb (by rw [vb];exact hm)) hK
 by_cases hs:(decide (n<0)==decide (m<0))=true
 ·obtain ⟨z,out,e1,hz,hd,aM,hl⟩:=anK Sk mQ hx hy ha hb (by omega) (by omega);have lo:out.length<=20000000000:=by omega
  obtain ⟨r,e2,hr⟩:=rG iL cZ (decide (n<0)) hz hd lo;have e:cD (decide (n<0)) (dv out)=n+m:=by
   have iV:(n<0)=(m<0):=by simpa using eq_of_beq hs
   rw [aM,va,vb];unfold cD;by_cases h0:n<0
   ·have h1:m<0:=iV▸h0;simp only [h0,ym,xm];omega
   ·have h1:¬m<0:=iV▸h0;simp only [h0,yk,yE,y9];omega
  rw [e] at hr;obtain ⟨w2,l2,rfl,ia,hZ,jV,AK⟩:=hr;refine ⟨_,?_,w2,l2,rfl,ia,hZ,jV,AK⟩;unfold ai at e1 e2 ⊢;rw [ax h];simp only [go_sem,ya,yb,Hu,az,hx.pu,hx.ao,hx.one,hy.pu,hy.ao,hy.one,hz.ao,ia.pu,ia.one,aP,yd,bj,e1,pR,cY,hs,e2,bP,bq];rcases ia with ⟨rfl,_⟩ | ⟨e,rfl⟩<;>rfl
 ·have hs:(decide (n<0)==decide (m<0))=false:=by simpa using hs
  have iV:¬((n<0)=(m<0)):=fun e=>by simp [e] at hs
  have ec:=abJ oN hx hy ha hb na nb (by omega) (by omega);by_cases hc:dv a<dv b
  ·have eN:ef (dv a) (dv b)= -1:=by unfold ef;rw [yz hc]
   rw [eN] at ec;obtain ⟨z,out,e1,hz,eV,hd,Dt,aM⟩:=anL Sl mQ cZ hy hx hb ha nb na (by omega) (by omega);have lo:out.length<=20000000000:=by
    refine ik hd Dt ?_
    have:=jO hb
    have hk:∀K,b.length<=K->dv out<1000000000^K:=fun K h=>yO (show dv out<1000000000^b.length by omega) (xx (by decide) h)
    exact hk 20000000000 (by omega)
   obtain ⟨r,e2,hr⟩:=rG iL cZ (decide (m<0)) hz hd lo;have e:cD (decide (m<0)) (dv out)=n+m:=by
    rw [va,vb] at aM;unfold cD;by_cases h0:m<0
    ·have h1:¬n<0:=fun h1=>iV (by simp [h0,h1])
     simp only [h0,ym,xm];omega
    ·have h1:n<0:=by
      by_cases h1:n<0
      ·exact h1
      ·exact absurd (by simp [h0,h1]) iV
     simp only [h0,yk,yE,y9];omega
   rw [e] at hr;obtain ⟨w2,l2,rfl,ia,hZ,jV,AK⟩:=hr;refine ⟨_,?_,w2,l2,rfl,ia,hZ,jV,AK⟩;unfold ai at e1 e2 ec ⊢;rw [ax h];simp only [go_sem,ya,yb,Hu,az,hx.pu,hx.ao,hx.one,hy.pu,hy.ao,hy.one,hz.ao,hz.shut,ia.pu,ia.one,aP,yd,bj,e1,pR,cY,hs,ec,show ¬(0:Int)<=-1 by decide,e2,bP,bq];rcases ia with ⟨rfl,_⟩ | ⟨e,rfl⟩<;>rfl
  ·have eN:(0:Int)<=ef (dv a) (dv b):=by unfold ef;rw [yp hc];split<;>decide
   obtain ⟨z,out,e1,hz,eV,hd,Dt,aM⟩:=anL Sl mQ cZ hx hy ha hb na nb (by omega) (by omega);have lo:out.length<=20000000000:=by
    refine ik hd Dt ?_
    have:=jO ha
    have hk:∀K,a.length<=K->dv out<1000000000^K:=fun K h=>yO (show dv out<1000000000^a.length by omega) (xx (by decide) h)
    exact hk 20000000000 (by omega)
   obtain ⟨r,e2,hr⟩:=rG iL cZ (decide (n<0)) hz hd lo;have e:cD (decide (n<0)) (dv out)=n+m:=by
    rw [va,vb] at aM;unfold cD;by_cases h0:n<0
    ·have h1:¬m<0:=fun h1=>iV (by simp [h0,h1])
     simp only [h0,ym,xm];omega
    ·have h1:m<0:=by
      by_cases h1:m<0
      ·exact h1
      ·exact absurd (by simp [h0,h1]) iV
     simp only [h0,yk,yE,y9];omega
   rw [e] at hr;obtain ⟨w2,l2,rfl,ia,hZ,jV,AK⟩:=hr;refine ⟨_,?_,w2,l2,rfl,ia,hZ,jV,AK⟩;unfold ai at e1 e2 ec ⊢;rw [ax h];simp only [go_sem,ya,yb,Hu,az,hx.pu,hx.ao,hx.one,hy.pu,hy.ao,hy.one,hz.ao,hz.shut,ia.pu,ia.one,aP,yd,bj,e1,pR,cY,hs,ec,eN,e2,bP,bq];rcases ia with ⟨rfl,_⟩ | ⟨e,rfl⟩<;>rfl
end
end
section
open Go (IntKind)
section
variable {P:aJ} {L:Lib}
def ajR {l:List Int} (hd:dg l) (hn:nz l) (h:dv l<1000000000):l.length<=1:=ik hd hn (by simpa using h)
def aEA (h:Has P L 289 sH) (oN:Has P L 296 sI) (p9:Has P L 299 CG) (cZ:Has P L 300 ma) {v w:AV} {a b:List Int} (hv:bB v a) (hw:bB w b) (ha:dg a) (hb:dg b) (na:nz a) (nb:nz b) (la:a.length<=20000000000) (lb:b.length<=1) (h0:0<dv b):
  ∃q r lq lr,ai P L 289 [v,w] (.af [q,r])/\bB q lq/\bB r lr/\dg lq/\nz lq/\dg lr/\nz lr/\dv lq=dv a/dv b/\dv lr=dv a%dv b:=by
 have ec:=abJ oN hv hw ha hb na nb la (by omega);by_cases hc:dv a<dv b
 ·have eN:ef (dv a) (dv b)= -1:=by unfold ef;rw [yz hc]
  rw [eN] at ec;refine ⟨.aa,v,[],a,?_,DR,hv,rfl,rfl,ha,na,?_,?_⟩
  ·unfold ai;rw [ax h];simp only [go_sem,ya,sH,hv.ao,hw.ao,ec,show (-1:Int)<0 by decide];rcases hv with ⟨rfl,_⟩ | ⟨e,rfl⟩<;>rfl
  ·rw [wj hc];rfl
  ·rw [yP hc]
 ·have eN:¬ef (dv a) (dv b)<0:=by unfold ef;rw [yp hc];split<;>decide
  have nR:b.length=1:=by
   rcases xj b.length with e | e
   ·rw [yN e] at h0;simp [dv] at h0
   ·omega
  obtain ⟨x,rfl⟩:∃x,b=[x]:=by
   cases b with
   | nil=>simp at nR
   | cons x r=>cases r with
    | nil=>exact ⟨x,rfl⟩
    | cons y r=>simp at nR
  have gx:=kZ.1 hb;obtain ⟨d,hd⟩:∃d:Nat,x=d:=⟨x.toNat,by omega⟩;subst hd;have hdd:dv [((d:Nat):Int)]=d:=by simp [dv]
  rw [hdd] at h0 hc eN ec ⊢;obtain ⟨q,lq,e1,hq,Dz,aEB,dq,nq,vq⟩:=anM p9 cZ hv ha la h0 (by omega);have alK:dv a%d<d:=xr _ h0;generalize dv a%d=m at*
  obtain ⟨r,e2,hr,hrs⟩:=CU cZ (gG true [(m:Int)]) (by simp);refine ⟨q,r,lq,et [(m:Int)],?_,hq,hr,dq,nq,BP (kZ.2 (by omega)),Gp _,vq,by rw [zL];simp [dv]⟩;have e3:=hw.bz (i:=0) (by simp);simp only [yx,yJ,yd,xi,wH,wF] at e2 e3;unfold ai;rw [ax h];simp only [go_sem,ya,yb,yr,yi,yj,sH,hv.ao,hw.len,hw.ao,ec,eN,yx,yJ,show ((1:Nat):Int)=(1:Int) from rfl,ym,e3,e1,aEB,e2,hrs];rcases hq with ⟨rfl,_⟩ | ⟨e,rfl⟩<;>rcases hr with ⟨rfl,_⟩ | ⟨e',rfl⟩<;>rfl
end
end
section
open Go (IntKind)
def sv:List Int->Int
 | []=>0
 | a::r=>a+1000000000*sv r
def afQ:∀(a b:List Int),sv (a++b)=sv a+1000000000^a.length*sv b
 | [],b=>by simp [sv]
 | x::a,b=>by
  simp only [xk,sv,afQ a b,yx,uP,ybX]
  grind
def aBp (x:Int):sv [x]=x:=by simp [sv]
def GP:∀{l:List Int} {i:Nat} {x:Int},i<l.length->sv (l.set i x)=sv l+1000000000^i*(x-l.getD i 0)
 | [],i,x,h=>by simp at h
 | a::l,0,x,_=>by simp [sv];omega
 | a::l,i+1,x,h=>by
  have ih:=GP (l:=l) (i:=i) (x:=x) (by simpa using h);simp only [List.set_cons_succ,sv,List.getD_cons_succ,ih,uP,ybX]
  grind
def Ph {l:List Int} (i:Nat):sv (l.take (i+1))=sv (l.take i)+1000000000^i*l.getD i 0:=by
 by_cases h:i<l.length
 ·rw [List.take_succ_eq_append_getElem h,afQ,yR,xP (by omega),aBp]
  grind
 ·rw [yK (by omega),yK (by omega),Kt (by omega),Int.mul_zero,Int.add_zero]
def Am:∀{l:List Int},dg l->sv l=dv l
 | [],_=>rfl
 | a::l,h=>by
  obtain ⟨h1,h2⟩:=ie.1 (show dg ([a]++l) from h);have h1:=kZ.1 h1;simp only [sv,dv,Am h2,yaW,xE];omega
section
variable {pre x post:List Int} {i:Nat}
def oy:(pre++x++post).length=pre.length+x.length+post.length:=by grind
def Cg (h:i<x.length):(pre++x++post).getD (pre.length+i) 0=x.getD i 0:=by grind
def PD (a:Int) (h:i<x.length):(pre++x++post).set (pre.length+i) a=pre++x.set i a++post:=by simp_all
end
def ak4 {l:List Int} {i m:Nat} {x:Int} (h:i≠m):(l.set i x).getD m 0=l.getD m 0:=by simp_all
def ato {l:List Int} {i:Nat} {x:Int} (h:i<l.length):(l.set i x).getD i 0=x:=by simp_all
abbrev H3 (q u:List Int) (f:Int):Hp:=[(2,.cells true true true 1 (q.map ab)),(1,.cells true true false 1 (u.map ab)),(0,.cells false true true 1 [ab f])]
def OT {live:List Nat} {tm:Env} {ct:Nat} {a b c:List AV} (ht:rn 3 (eC tm live)) (hl:(jC (eC tm live)).length<100000):
  bS live ⟨tm,[(2,.cells true true true 1 a),(1,.cells true true false 1 b),(0,.cells false true true 1 c)],ct,3⟩=⟨eC tm live,[(2,.cells true true true 1 a),(1,.cells true true false 1 b),(0,.cells false true true 1 c)],3,3⟩:=
 aet ht ⟨by omega,.inl rfl,by omega,.inl rfl,by omega,.inl rfl,trivial⟩ (by
  have:ju 3 [(2,Obj.cells true true true 1 a),(1,Obj.cells true true false 1 b),(0,Obj.cells false true true 1 c)]=[]:=rfl
  rw [this,yJ,yW];exact hl)
structure fW (x vs:List Int) (n v1 v2 u0 u1 u2:Nat):Prop where
 n2:2<=n
 nb:n<=20000000000
 lx:x.length=n+1
 lv:vs.length=n
 gx:dg x
 gv:dg vs
 fg:vs.getD (n-1) 0=(v1:Int)
 dM:vs.getD (n-2) 0=(v2:Int)
 h0:x.getD n 0=(u0:Int)
 h1:x.getD (n-1) 0=(u1:Int)
 h2:x.getD (n-2) 0=(u2:Int)
 pos:0<v1
 lt:dv x<1000000000*dv vs
section
variable {x vs:List Int} {n v1 v2 u0 u1 u2:Nat}
def fW.ND (h:fW x vs n v1 v2 u0 u1 u2):v1<1000000000:=by have:=ij h.gv (n-1);rw [h.fg] at this;omega
def fW.FA (h:fW x vs n v1 v2 u0 u1 u2):v2<1000000000:=by have:=ij h.gv (n-2);rw [h.dM] at this;omega
def fW.u0W (h:fW x vs n v1 v2 u0 u1 u2):u0<1000000000:=by have:=ij h.gx n;rw [h.h0] at this;omega
def fW.NE (h:fW x vs n v1 v2 u0 u1 u2):u1<1000000000:=by have:=ij h.gx (n-1);rw [h.h1] at this;omega
def fW.NF (h:fW x vs n v1 v2 u0 u1 u2):u2<1000000000:=by have:=ij h.gx (n-2);rw [h.h2] at this;omega
def fW.parts (h:fW x vs n v1 v2 u0 u1 u2):∃p vr ur,dv vs=(v1*1000000000+v2)*p+vr/\vr<p/\dv x=((u0*1000000000+u1)*1000000000+u2)*p+ur/\ur<p:=by
 obtain ⟨m,hm⟩:∃m,n=m+2:=⟨n-2,by have:=h.n2;omega⟩;subst hm;have e1:=px (l:=vs) (m+1);have e2:=px (l:=vs) m;have f0:=px (l:=x) (m+2);have f1:=px (l:=x) (m+1);have f2:=px (l:=x) m;have fg:vs.getD (m+1) 0=(v1:Int):=h.fg;have dM:vs.getD m 0=(v2:Int):=h.dM;have h0:x.getD (m+2) 0=(u0:Int):=h.h0;have h1:x.getD (m+1) 0=(u1:Int):=h.h1;have h2:x.getD m 0=(u2:Int):=h.h2
 rw [yK (by have:=h.lv;omega),fg,e2,dM] at e1
 rw [yK (by have:=h.lx;omega),h0,f1,h1,f2,h2] at f0;simp only [xC] at e1 f0;have g1:=jO (DX h.gv m)
 rw [yR,xP (by have:=h.lv;omega)] at g1;have g2:=jO (DX h.gx m)
 rw [yR,xP (by have:=h.lx;omega)] at g2;refine ⟨1000000000^m,_,_,?_,g1,?_,g2⟩
 ·rw [e1,xh,aCK]
 ·rw [f0,show 1000000000^(m+2)=1000000000^m*1000000000*1000000000 by rw [xh,xh],xh,aCL]
def fW.down (h:fW x vs n v1 v2 u0 u1 u2) {t r:Nat} (ht:t*v1+r=u0*1000000000+u1) (hr:r*1000000000+u2<t*v2):dv x/dv vs<=t-1:=by
 obtain ⟨p,vr,ur,h1,h2,h3,h4⟩:=h.parts;exact aeU h1 h3 h4 ht hr
def fW.stop (h:fW x vs n v1 v2 u0 u1 u2) {t r:Nat} (kS:t<1000000000) (ht:t*v1+r=u0*1000000000+u1) (hr:1000000000<=r\/t*v2<=r*1000000000+u2):t<=dv x/dv vs+1:=by
 obtain ⟨p,vr,ur,h1,h2,h3,h4⟩:=h.parts;exact afC (by decide) h1 h2 h3 h.pos h.FA kS ht hr
def fW.first (h:fW x vs n v1 v2 u0 u1 u2):dv x/dv vs<=(u0*1000000000+u1)/v1:=by
 obtain ⟨p,vr,ur,h1,h2,h3,h4⟩:=h.parts;exact Ud h1 h3 h4 h.NF h.pos
def fW.top (h:fW x vs n v1 v2 u0 u1 u2):u0<=v1:=by
 obtain ⟨p,vr,ur,h1,h2,h3,h4⟩:=h.parts;exact afD h1 h3 h2 h.FA h.lt
def fW.digit (h:fW x vs n v1 v2 u0 u1 u2):dv x/dv vs<1000000000:=by
 refine (wi ?_).2 h.lt;rcases xj (dv vs) with h0 | h0
 ·have:=h.lt;rw [h0] at this;simp at this
 ·exact h0
def fW.small (h:fW x vs n v1 v2 u0 u1 u2) {t r:Nat} (ht:t*v1+r=u0*1000000000+u1) (hb:1000000000<=t):r<1000000000:=by
 have h1:=h.top;have h2:=h.NE;have h3:=yY v1 hb
 grind
end
def aEC {r u:Nat} (hr:r<1000000000) (hu:u<1000000000):r*1000000000<9223372036854775808/\r*1000000000+u<9223372036854775808:=by omega
section
variable {P:aJ} {L:Lib}
def axy {w:AV} {x vs pre post qs:List Int} {f:Int} (hw:bB w vs) {n v1 v2 u0 u1 u2 M:Nat} (hl:fW x vs n v1 v2 u0 u1 u2) (hM:M=pre.length+x.length+post.length) (NS:M<=50000000000):
  ∀k s,(∃t r:Nat,bS [0,1,2,7,9,10] s=⟨[(0,.ay 1 0 M),(1,w),(2,ab pre.length),(7,ab n),(9,ab t),(10,ab r)],H3 qs (pre++x++post) f,3,3⟩/\t*v1+r=u0*1000000000+u1/\r<1000000000/\dv x/dv vs<=t/\t=k)->
   ∃ex s',D P L (.loop [0,1,2,7,9,10] Cd) s=some (ex,s')/\∃tm ct t,s'=⟨tm,H3 qs (pre++x++post) f,ct,3⟩/\((ex= .exit 0/\ak tm 9=ab (t:Nat))\/(ex= .ret/\ak tm 6=ab (t:Nat)))/\ct=3/\t<1000000000/\dv x/dv vs<=t/\t<=dv x/dv vs+1:=by
 refine cR (I:=fun k s=>∃t r:Nat,s=⟨[(0,.ay 1 0 M),(1,w),(2,ab pre.length),(7,ab n),(9,ab t),(10,ab r)],H3 qs (pre++x++post) f,3,3⟩/\t*v1+r=u0*1000000000+u1/\r<1000000000/\dv x/dv vs<=t/\t=k)
  (Q:=fun ex s'=>∃tm ct t,s'=⟨tm,H3 qs (pre++x++post) f,ct,3⟩/\((ex= .exit 0/\ak tm 9=ab (t:Nat))\/(ex= .ret/\ak tm 6=ab (t:Nat)))/\ct=3/\t<1000000000/\dv x/dv vs<=t/\t<=dv x/dv vs+1) ?_
 rintro k s ⟨t,r,rfl,ht,hr,hQ,rfl⟩;have eM:=hl.n2;have qI:=hl.nb;have hlx:=hl.lx;have H5:=hl.ND;have abn:=hl.FA;have anj:=hl.NF;have aED:=hl.u0W;have Sa:=hl.NE;have C0:=hl.pos;have qQ:=rz hw (i:=n-2) (by have:=hl.lv;omega);have fh:=rz hw (i:=n-1) (by have:=hl.lv;omega);rw [hl.dM] at qQ;rw [hl.fg] at fh;have zx:=sC (l:=pre++x++post) (o:=pre.length+(n-2)) (by rw [oy];omega);rw [Cg (by omega),hl.h2] at zx;have Br:(n:Int)-2=((n-2:Nat):Int):=by omega
 have qR:(n:Int)-1=((n-1:Nat):Int):=by omega
 have NT:(pre.length:Int)+(n:Int)=((pre.length+n:Nat):Int):=rfl;have pn2:((pre.length+n:Nat):Int)-2=((pre.length+(n-2):Nat):Int):=by omega
 have aKG:t<=1000000000000000000:=by
  have:=yT t C0
  omega
 have aKH:t*1<=t*v1:=yT t C0;obtain ⟨rm1,rm2⟩:=aEC hr anj;by_cases zu:1000000000<=t\/r*1000000000+u2<t*v2
 ·have ht0:0<t:=by
   rcases xj t with h0 | h0
   ·subst h0;omega
   ·exact h0
  have h1:(t-1)*v1+(r+v1)=u0*1000000000+u1:=by
   obtain ⟨p,rfl⟩:∃p,t=p+1:=⟨t-1,by omega⟩;rw [Nat.add_mul,Nat.one_mul] at ht;rw [Nat.add_sub_cancel];omega
  have FB:dv x/dv vs<=t-1:=by
   rcases zu with h | h
   ·have:=hl.digit;generalize dv x/dv vs=q at*;omega
   ·exact hl.down ht h
  have TA:((t:Nat):Int)-1=((t-1:Nat):Int):=by omega
  have stop:1000000000<=r+v1->t-1<1000000000/\t-1<=dv x/dv vs+1:=fun hb=>by
   have aZ:t-1<1000000000:=by
    by_cases zd:1000000000<=t-1
    ·have:=hl.small h1 zd;omega
    ·omega
   exact ⟨aZ,hl.stop aZ h1 (.inl hb)⟩
  by_cases hb:1000000000<=t
  ·by_cases lH:1000000000<=r+v1
   ·right
    obtain ⟨s1,s2⟩:=stop lH
    simp only [go_sem,ya,Cd,H3,show (1000000000:Int)<=(t:Int) by omega,TA,wrapN (n:=t-1) (by omega),qR,wrapN (n:=n-1) (by omega),fh,show (r:Int)+(v1:Int)=((r+v1:Nat):Int) from rfl,wrapN (n:=r+v1) (by omega),show (1000000000:Int)<=((r+v1:Nat):Int) by omega];exact ⟨_,_,rfl,by simp,_,_,t-1,rfl,.inr ⟨rfl,by simp only [go_sem]⟩,rfl,s1,FB,s2⟩
   ·left
    simp only [go_sem,ya,Cd,H3,show (1000000000:Int)<=(t:Int) by omega,TA,wrapN (n:=t-1) (by omega),qR,wrapN (n:=n-1) (by omega),fh,show (r:Int)+(v1:Int)=((r+v1:Nat):Int) from rfl,wrapN (n:=r+v1) (by omega),show ¬(1000000000:Int)<=((r+v1:Nat):Int) by omega];refine ⟨_,t-1,rfl,by omega,t-1,r+v1,?_,h1,by omega,FB,rfl⟩;rw [OT (by simp only [go_sem,ya,yr,mD,nA,mz,mw,qX hw.pu,wM]) (by simp only [go_sem,ya,yb,yr,aR hw.pu])];simp only [go_sem,ya]
  ·have Dh:=ve (show t<=999999999 by omega) (show v2<=999999999 by omega);have abL:r*1000000000+u2<t*v2:=zu.resolve_left hb;obtain ⟨m,hm⟩:∃m,t*v2=m:=⟨_,rfl⟩;have em:(t:Int)*(v2:Int)=(m:Int):=by rw [<-hm,xE]
   rw [hm] at abL Dh;have IK:(r:Int)*1000000000=((r*1000000000:Nat):Int):=by omega
   have Dp:((r*1000000000:Nat):Int)+(u2:Int)=((r*1000000000+u2:Nat):Int):=rfl;by_cases lH:1000000000<=r+v1
   ·right
    obtain ⟨s1,s2⟩:=stop lH
    simp only [go_sem,ya,yj,Cd,H3,show ¬(1000000000:Int)<=(t:Int) by omega,Br,wrapN (n:=n-2) (by omega),qQ,em,wrapN (n:=m) (by omega),IK,wrapN rm1,NT,wrapN (n:=pre.length+n) (by omega),pn2,wrapN (n:=pre.length+(n-2)) (by omega),dD 1 0 (show pre.length+(n-2)<M by omega),yd,zx,Dp,wrapN rm2,show ((r*1000000000+u2:Nat):Int)<(m:Int) from ue.2 abL,TA,wrapN (n:=t-1) (by omega),qR,wrapN (n:=n-1) (by omega),fh,show (r:Int)+(v1:Int)=((r+v1:Nat):Int) from rfl,wrapN (n:=r+v1) (by omega),show (1000000000:Int)<=((r+v1:Nat):Int) by omega];exact ⟨_,_,rfl,by simp,_,_,t-1,rfl,.inr ⟨rfl,by simp only [go_sem]⟩,rfl,s1,FB,s2⟩
   ·left
    simp only [go_sem,ya,yj,Cd,H3,show ¬(1000000000:Int)<=(t:Int) by omega,Br,wrapN (n:=n-2) (by omega),qQ,em,wrapN (n:=m) (by omega),IK,wrapN rm1,NT,wrapN (n:=pre.length+n) (by omega),pn2,wrapN (n:=pre.length+(n-2)) (by omega),dD 1 0 (show pre.length+(n-2)<M by omega),yd,zx,Dp,wrapN rm2,show ((r*1000000000+u2:Nat):Int)<(m:Int) from ue.2 abL,TA,wrapN (n:=t-1) (by omega),qR,wrapN (n:=n-1) (by omega),fh,show (r:Int)+(v1:Int)=((r+v1:Nat):Int) from rfl,wrapN (n:=r+v1) (by omega),show ¬(1000000000:Int)<=((r+v1:Nat):Int) by omega];refine ⟨_,t-1,rfl,by omega,t-1,r+v1,?_,h1,by omega,FB,rfl⟩;rw [OT (by simp only [go_sem,ya,yr,mD,nA,mz,mw,qX hw.pu,wM]) (by simp only [go_sem,ya,yb,yr,aR hw.pu])];simp only [go_sem,ya]
 ·right
  have kS:t<1000000000:=Nat.lt_of_not_le fun e=>zu (.inl e)
  have Dh:=ve (show t<=999999999 from tF kS) (show v2<=999999999 from tF abn);have abM:t*v2<=r*1000000000+u2:=Nat.le_of_not_lt fun e=>zu (.inr e)
  have aCV:=hl.stop kS ht (.inr abM);obtain ⟨m,hm⟩:∃m,t*v2=m:=⟨_,rfl⟩;have em:(t:Int)*(v2:Int)=(m:Int):=by rw [<-hm,xE]
  rw [hm] at abM Dh;have IK:(r:Int)*1000000000=((r*1000000000:Nat):Int):=by omega
  have Dp:((r*1000000000:Nat):Int)+(u2:Int)=((r*1000000000+u2:Nat):Int):=rfl
  simp only [go_sem,ya,yj,Cd,H3,show ¬(1000000000:Int)<=(t:Int) by omega,Br,wrapN (n:=n-2) (by omega),qQ,em,wrapN (n:=m) (by omega),IK,wrapN rm1,NT,wrapN (n:=pre.length+n) (by omega),pn2,wrapN (n:=pre.length+(n-2)) (by omega),dD 1 0 (show pre.length+(n-2)<M by omega),yd,zx,Dp,wrapN rm2,show ¬((r*1000000000+u2:Nat):Int)<(m:Int) from fun e=>Nat.not_lt_of_le abM (ue.1 e)];exact ⟨_,_,rfl,by simp,_,_,t,rfl,.inl ⟨rfl,by simp only [go_sem,ya]⟩,rfl,kS,hQ,aCV⟩
def aCW (h:Has P L 301 Ay) {w:AV} {x vs pre post qs:List Int} {f:Int} (hw:bB w vs) {n v1 v2 u0 u1 u2 M:Nat} (hl:fW x vs n v1 v2 u0 u1 u2) (hM:M=pre.length+x.length+post.length) (NS:M<=50000000000):
  ∃t:Nat,ja P L (D P L) (H3 qs (pre++x++post) f) 3 301 [.ay 1 0 M,w,ab pre.length]=some (ab t,H3 qs (pre++x++post) f,3)/\t<1000000000/\dv x/dv vs<=t/\t<=dv x/dv vs+1:=by
 have eM:=hl.n2;have qI:=hl.nb;have hlx:=hl.lx;have zy:below 3 w:=qX hw.pu;have H5:=hl.ND;have aED:=hl.u0W;have Sa:=hl.NE;have C0:=hl.pos;have fh:=rz hw (i:=n-1) (by have:=hl.lv;omega);rw [hl.fg] at fh;have Dr:=sC (l:=pre++x++post) (o:=pre.length+n) (by rw [oy];omega);rw [Cg (by omega),hl.h0] at Dr;have Ds:=sC (l:=pre++x++post) (o:=pre.length+(n-1)) (by rw [oy];omega);rw [Cg (by omega),hl.h1] at Ds;have qR:(n:Int)-1=((n-1:Nat):Int):=by omega
 have NT:(pre.length:Int)+(n:Int)=((pre.length+n:Nat):Int):=rfl;have pn1:((pre.length+n:Nat):Int)-1=((pre.length+(n-1):Nat):Int):=by omega
 obtain ⟨m,hm⟩:∃m,m=u0*1000000000+u1:=⟨_,rfl⟩;have em:(u0:Int)*1000000000=((u0*1000000000:Nat):Int):=by omega
 have em2:((u0*1000000000:Nat):Int)+(u1:Int)=(m:Int):=by omega
 have fK:=xM m v1;have sP:=xr m C0;have PB:=hl.first;rw [<-hm] at PB;have aKU:m/v1<=m:=Nat.div_le_self _ _;have oq:IntKind.wrap .i64 ((m:Int).tdiv (v1:Int))=((m/v1:Nat):Int):=by
  rw [xX (by omega),<-Int.natCast_ediv,wrapN (by omega)]
 have or':(m:Int).tmod (v1:Int)=((m%v1:Nat):Int):=by rw [wc (by omega),<-Int.natCast_emod]
 rw [xB] at fK;generalize m/v1=q0 at*
 generalize m%v1=r0 at*
 have iz:∃ex tm t,D P L Ay.body ⟨fL 0 [.ay 1 0 M,w,ab pre.length],H3 qs (pre++x++post) f,3,3⟩=some (ex,⟨tm,H3 qs (pre++x++post) f,3,3⟩)/\(ex= .normal\/ex= .ret)/\ak tm 6=ab (t:Nat)/\t<1000000000/\dv x/dv vs<=t/\t<=dv x/dv vs+1:=by
  simp only [go_sem,ya,yj,Ay,H3,hw.len,hl.lv,NT,wrapN (n:=pre.length+n) (by omega),dD 1 0 (show pre.length+n<M by omega),yd,Dr,em,wrapN (n:=u0*1000000000) (by omega),pn1,wrapN (n:=pre.length+(n-1)) (by omega),dD 1 0 (show pre.length+(n-1)<M by omega),Ds,em2,wrapN (n:=m) (by omega),qR,wrapN (n:=n-1) (by omega),fh,fq _ _ _ (show (v1:Int)≠0 by omega),gF _ _ _ (show (v1:Int)≠0 by omega),oq,or'];generalize mX:D P L (.loop [0,1,2,7,9,10] Cd) _=qq;obtain ⟨ex,s,rfl,tm,ct,t,rfl,HY,rfl,g1,g2,g3⟩:=cG mX (axy (P:=P) (L:=L) (qs:=qs) (f:=f) hw hl hM NS q0) ⟨q0,r0,by
   rw [OT (by simp only [go_sem,ya,yr,mD,nA,mz,mw,zy,wM]) (by simp only [go_sem,ya,yb,yr,aR hw.pu])]
   simp only [go_sem,ya],by omega,by omega,PB,rfl⟩
  rcases HY with ⟨rfl,h9⟩ | ⟨rfl,h6⟩
  ·simp only [go_sem,yr,H3,OT,mD,mz,mw,h9,and_self];exact ⟨_,_,t,rfl,.inr rfl,by simp only [go_sem],g1,g2,g3⟩
  ·simp only [go_sem];exact ⟨_,_,t,rfl,.inr rfl,h6,g1,g2,g3⟩
 obtain ⟨ex,tm,t,g1,g2,g3,g4,g5,g6⟩:=iz;exact ⟨t,ajP h g1 g2 (by show iX _ [RV.t 6]=_;rw [abe,Wz,g3]),g4,g5,g6⟩
end
end
section
open Go (IntKind)
def aEE {t v bo:Int} (ht:0<=t/\t<1000000000) (hv:0<=v/\v<1000000000) (hb:0<=bo/\bo<1000000000):0<=t*v/\t*v<=999999998000000001/\0<=t*v+bo/\t*v+bo<=999999999000000000:=by
 have h1:=tD ht.1 hv.1;have h2:=Int.mul_le_mul (show t<=999999999 by omega) (show v<=999999999 by omega) hv.1 (by decide);omega
def aEF {x p:Int} (hx:0<=x/\x<1000000000) (hp:0<=p/\p<=999999999000000000):
  (x-p.tmod 1000000000<0->0<=x-p.tmod 1000000000+1000000000/\x-p.tmod 1000000000+1000000000<1000000000/\0<=p.tdiv 1000000000+1/\p.tdiv 1000000000+1<1000000000/\x-p.tmod 1000000000+1000000000+p=x+1000000000*(p.tdiv 1000000000+1))/\
  (¬x-p.tmod 1000000000<0->x-p.tmod 1000000000<1000000000/\0<=p.tdiv 1000000000/\p.tdiv 1000000000<1000000000/\x-p.tmod 1000000000+p=x+1000000000*p.tdiv 1000000000):=by grind
def VN {l:List Int} (h:dg l) {i:Nat} {z:Int} (hz:0<=z/\z<1000000000):dg (l.set i z):=Pw h hz
def axz {b p z q v bo Bs x X Y S:Int} (h2:z+(q*v+bo)=x+b*Bs) (h3:Y+q*X=S+p*bo):(Y+p*(z-x))+q*(X+p*v)=S+p*b*Bs:=by grind
section
variable {P:aJ} {L:Lib}
def axA {w:AV} {x vs pre post qs:List Int} {f:Int} (hw:bB w vs) {n M m:Nat} (lv:vs.length=n) (hM:M=pre.length+(n+1)+post.length) (NS:M<=50000000000) (gv:dg vs) {t:Int} (ht:0<=t/\t<1000000000):
  ∀k s,(∃(i:Nat) (bo:Int) (y:List Int),bS [8,9,10,11,12,13,14,15,16] s=⟨[(8,.ay 0 0 1),(9,w),(10,ab n),(11,.ay 1 0 M),(12,.ay 2 0 m),(13,ab pre.length),(14,ab t),(15,ab bo),(16,ab i)],H3 qs (pre++y++post) f,3,0⟩/\i+k=n/\y.length=n+1/\dg y/\(0<=bo/\bo<1000000000)/\
    sv y+t*sv (vs.take i)=sv x+1000000000^i*bo)->
   ∃ex s',D P L (.loop [8,9,10,11,12,13,14,15,16] GF) s=some (ex,s')/\∃tm bo y,s'=⟨tm,H3 qs (pre++y++post) f,3,0⟩/\ex= .exit 4/\ak tm 8= .ay 0 0 1/\ak tm 9=w/\ak tm 10=ab n/\ak tm 11= .ay 1 0 M/\ak tm 12= .ay 2 0 m/\ak tm 13=ab pre.length/\ak tm 14=ab t/\ak tm 15=ab bo/\y.length=n+1/\dg y/\(0<=bo/\bo<1000000000)/\
    sv y+t*sv vs=sv x+1000000000^n*bo:=by
 refine cR (I:=fun k s=>∃(i:Nat) (bo:Int) (y:List Int),s=⟨[(8,.ay 0 0 1),(9,w),(10,ab n),(11,.ay 1 0 M),(12,.ay 2 0 m),(13,ab pre.length),(14,ab t),(15,ab bo),(16,ab i)],H3 qs (pre++y++post) f,3,0⟩/\i+k=n/\y.length=n+1/\dg y/\(0<=bo/\bo<1000000000)/\
    sv y+t*sv (vs.take i)=sv x+1000000000^i*bo)
  (Q:=fun ex s'=>∃tm bo y,s'=⟨tm,H3 qs (pre++y++post) f,3,0⟩/\ex= .exit 4/\ak tm 8= .ay 0 0 1/\ak tm 9=w/\ak tm 10=ab n/\ak tm 11= .ay 1 0 M/\ak tm 12= .ay 2 0 m/\ak tm 13=ab pre.length/\ak tm 14=ab t/\ak tm 15=ab bo/\y.length=n+1/\dg y/\(0<=bo/\bo<1000000000)/\
    sv y+t*sv vs=sv x+1000000000^n*bo) ?_
 rintro k s ⟨i,bo,y,rfl,hk,ly,gy,jn,aM⟩;by_cases hi:i<n
 ·left
  have rR:=ij gv i;have qS:=ij gy i;have ev:=rz hw (i:=i) (by omega);have ey:=sC (l:=pre++y++post) (o:=pre.length+i) (by rw [oy];omega);rw [Cg (by omega)] at ey;have eX:=Ph (l:=vs) i;obtain ⟨a,ha⟩:∃a,a=vs.getD i 0:=⟨_,rfl⟩;obtain ⟨d,hd⟩:∃d,d=y.getD i 0:=⟨_,rfl⟩;rw [<-ha] at rR ev eX;rw [<-hd] at qS ey;obtain ⟨p1,p2,p3,p4⟩:=aEE ht rR jn;obtain ⟨s1,s2⟩:=aEF qS ⟨p3,p4⟩;have fj:(i:Int)+(pre.length:Int)=((pre.length+i:Nat):Int):=by omega
  have aY:=fun (hp:Hp) (ct:Nat) (z:Int)=>Dy (hp:=hp) (ct:=ct) (id:=1) (v:=z) (ex:=false) (l:=pre++y++post) (o:=pre.length+i) (by rw [oy];omega)
  have oI:=fun z=>PD (pre:=pre) (x:=y) (post:=post) (i:=i) z (by omega)
  have bf:=fun z=>GP (l:=y) (i:=i) (x:=z) (by omega)
  rw [<-hd] at bf;obtain ⟨pr,oQ⟩:∃pr,pr=t*a+bo:=⟨_,rfl⟩;obtain ⟨dm,fK⟩:∃dm,pr.tmod 1000000000=dm:=⟨_,rfl⟩;obtain ⟨dq,FF⟩:∃dq,pr.tdiv 1000000000=dq:=⟨_,rfl⟩;have aKV:0<=dm/\dm<1000000000:=by rw [<-fK,wc (by omega)];omega
  have aKW:0<=dq/\dq<1000000000:=by rw [<-FF,xX (by omega)];omega
  rw [<-oQ,fK,FF] at s1 s2;have key:∀z Bs,z+(t*a+bo)=d+1000000000*Bs->sv (y.set i z)+t*sv (vs.take (i+1))=sv x+1000000000^(i+1)*Bs:=fun z Bs h=>by
   rw [bf,eX,uP];exact axz h aM
  rw [<-oQ] at key;by_cases hO:d-dm<0
  ·obtain ⟨q1,q2,q3,q4,q5⟩:=s1 hO;have kk:=key _ _ q5;obtain ⟨dr,iE⟩:∃dr,d-dm=dr:=⟨_,rfl⟩;rw [iE] at hO kk q1 q2
   simp only [go_sem,ya,yj,GF,H3,show (i:Int)<(n:Int) by omega,ev,wrap64 (n:=t*a) (by omega) (by omega),<-oQ,wrap64 (n:=pr) (by omega) (by omega),fj,wrapN (n:=pre.length+i) (by omega),dD 1 0 (show pre.length+i<M by omega),yd,ey,gF _ _ _ (show (1000000000:Int)≠0 by decide),fq _ _ _ (show (1000000000:Int)≠0 by decide),fK,FF,iE,wrap64 (n:=dr) (by omega) (by omega),wrap64 (n:=dq) (by omega) (by omega),hO,wrap64 (n:=dr+1000000000) (by omega) (by omega),wrap64 (n:=dq+1) (by omega) (by omega),aY,oI];refine ⟨_,k-1,rfl,by omega,i+1,dq+1,y.set i (dr+1000000000),?_,by omega,by simp [ly],VN gy ⟨q1,q2⟩,⟨q3,q4⟩,kk⟩;rw [wrap64 (by omega) (by omega)];simp only [go_sem,ya,yb,aH,aR hw.pu,aW _ hw.pu]<;>rfl
  ·obtain ⟨q2,q3,q4,q5⟩:=s2 hO;have kk:=key _ _ q5;obtain ⟨dr,iE⟩:∃dr,d-dm=dr:=⟨_,rfl⟩;rw [iE] at hO kk q2
   simp only [go_sem,ya,yj,GF,H3,show (i:Int)<(n:Int) by omega,ev,wrap64 (n:=t*a) (by omega) (by omega),<-oQ,wrap64 (n:=pr) (by omega) (by omega),fj,wrapN (n:=pre.length+i) (by omega),dD 1 0 (show pre.length+i<M by omega),yd,ey,gF _ _ _ (show (1000000000:Int)≠0 by decide),fq _ _ _ (show (1000000000:Int)≠0 by decide),fK,FF,iE,wrap64 (n:=dr) (by omega) (by omega),wrap64 (n:=dq) (by omega) (by omega),hO,aY,oI];refine ⟨_,k-1,rfl,by omega,i+1,dq,y.set i dr,?_,by omega,by simp [ly],VN gy ⟨by omega,q2⟩,⟨q3,q4⟩,kk⟩;rw [wrap64 (by omega) (by omega)];simp only [go_sem,ya,yb,aH,aR hw.pu,aW _ hw.pu]<;>rfl
 ·right
  have:i=n:=by omega
  subst this;rw [yK (by omega)] at aM;simp only [go_sem,ya,GF,H3,show ¬(i:Int)<(i:Int) by omega];exact ⟨_,_,rfl,by simp,_,bo,y,rfl,rfl,by simp only [go_sem,ya],by simp only [go_sem,ya],by simp only [go_sem,ya],by simp only [go_sem,ya],by simp only [go_sem,ya],by simp only [go_sem,ya],by simp only [go_sem,ya],by simp only [go_sem,ya],ly,gy,jn,aM⟩
def axB {b p z v c c' x X Y S:Int} (h2:z+b*c'=x+v+c) (h3:Y+p*c=S+X):(Y+p*(z-x))+p*b*c'=S+(X+p*v):=by grind
def axC {w:AV} {y0 vs pre post qs:List Int} {f:Int} (hw:bB w vs) {n M m:Nat} (lv:vs.length=n) (hM:M=pre.length+(n+1)+post.length) (NS:M<=50000000000) (gv:dg vs) {t top:Int}:
  ∀k s,(∃(i:Nat) (c:Int) (y:List Int),bS [8,9,10,11,12,13,14,19,20] s=⟨[(8,.ay 0 0 1),(9,w),(10,ab n),(11,.ay 1 0 M),(12,.ay 2 0 m),(13,ab pre.length),(14,ab t),(19,ab c),(20,ab i)],H3 qs (pre++y++post) f,3,0⟩/\i+k=n/\y.length=n+1/\dg (y.take n)/\y.getD n 0=top/\(0<=c/\c<=1)/\
    sv y+1000000000^i*c=sv y0+sv (vs.take i))->
   ∃ex s',D P L (.loop [8,9,10,11,12,13,14,19,20] K6) s=some (ex,s')/\∃tm c y,s'=⟨tm,H3 qs (pre++y++post) f,3,0⟩/\ex= .exit 6/\ak tm 8= .ay 0 0 1/\ak tm 9=w/\ak tm 10=ab n/\ak tm 11= .ay 1 0 M/\ak tm 12= .ay 2 0 m/\ak tm 13=ab pre.length/\ak tm 14=ab t/\ak tm 19=ab c/\y.length=n+1/\dg (y.take n)/\y.getD n 0=top/\(0<=c/\c<=1)/\
    sv y+1000000000^n*c=sv y0+sv vs:=by
 refine cR (I:=fun k s=>∃(i:Nat) (c:Int) (y:List Int),s=⟨[(8,.ay 0 0 1),(9,w),(10,ab n),(11,.ay 1 0 M),(12,.ay 2 0 m),(13,ab pre.length),(14,ab t),(19,ab c),(20,ab i)],H3 qs (pre++y++post) f,3,0⟩/\i+k=n/\y.length=n+1/\dg (y.take n)/\y.getD n 0=top/\(0<=c/\c<=1)/\
    sv y+1000000000^i*c=sv y0+sv (vs.take i))
  (Q:=fun ex s'=>∃tm c y,s'=⟨tm,H3 qs (pre++y++post) f,3,0⟩/\ex= .exit 6/\ak tm 8= .ay 0 0 1/\ak tm 9=w/\ak tm 10=ab n/\ak tm 11= .ay 1 0 M/\ak tm 12= .ay 2 0 m/\ak tm 13=ab pre.length/\ak tm 14=ab t/\ak tm 19=ab c/\y.length=n+1/\dg (y.take n)/\y.getD n 0=top/\(0<=c/\c<=1)/\
    sv y+1000000000^n*c=sv y0+sv vs) ?_
 rintro k s ⟨i,c,y,rfl,hk,ly,gy,oJ,hc,aM⟩;by_cases hi:i<n
 ·left
  have rR:=ij gv i;have qS:=ij gy i;have e0:(y.take n).getD i 0=y.getD i 0:=by
   simp [wA,hi]
  rw [e0] at qS;have ev:=rz hw (i:=i) (by omega);have ey:=sC (l:=pre++y++post) (o:=pre.length+i) (by rw [oy];omega);rw [Cg (by omega)] at ey;have eX:=Ph (l:=vs) i;obtain ⟨a,ha⟩:∃a,a=vs.getD i 0:=⟨_,rfl⟩;obtain ⟨d,hd⟩:∃d,d=y.getD i 0:=⟨_,rfl⟩;rw [<-ha] at rR ev eX;rw [<-hd] at qS ey;have fj:(i:Int)+(pre.length:Int)=((pre.length+i:Nat):Int):=by omega
  have bf:=fun z=>GP (l:=y) (i:=i) (x:=z) (by omega)
  rw [<-hd] at bf;have sP:(d+a+c).tmod 1000000000=(d+a+c)%1000000000:=wc (by omega);have hdiv:(d+a+c).tdiv 1000000000=(d+a+c)/1000000000:=xX (by omega);obtain ⟨z,hz⟩:∃z,z=(d+a+c)%1000000000:=⟨_,rfl⟩;obtain ⟨c',qP⟩:∃z,z=(d+a+c)/1000000000:=⟨_,rfl⟩;have hzr:z+1000000000*c'=d+a+c:=by omega
  rw [<-hz] at sP;rw [<-qP] at hdiv;have aY:=fun (hp:Hp) (ct:Nat)=>Dy (hp:=hp) (ct:=ct) (id:=1) (v:=z) (ex:=false) (l:=pre++y++post) (o:=pre.length+i) (by rw [oy];omega)
  have oI:=PD (pre:=pre) (x:=y) (post:=post) (i:=i) z (by omega)
  simp only [go_sem,ya,yj,K6,H3,show (i:Int)<(n:Int) by omega,ev,fj,wrapN (n:=pre.length+i) (by omega),dD 1 0 (show pre.length+i<M by omega),yd,ey,wrap64 (n:=d+a) (by omega) (by omega),wrap64 (n:=d+a+c) (by omega) (by omega),gF _ _ _ (show (1000000000:Int)≠0 by decide),fq _ _ _ (show (1000000000:Int)≠0 by decide),sP,hdiv,wrap64 (n:=c') (by omega) (by omega),aY,oI];refine ⟨_,k-1,rfl,by omega,i+1,c',y.set i z,?_,by omega,by simp [ly],?_,by rw [ak4 (by omega)];exact oJ,⟨by omega,by omega⟩,?_⟩
  ·rw [wrap64 (by omega) (by omega)];simp only [go_sem,ya,yb,aH,aR hw.pu,aW _ hw.pu]<;>rfl
  ·rw [tJ];exact VN gy ⟨by omega,by omega⟩
  ·rw [bf,eX,uP];exact axB hzr aM
 ·right
  have:i=n:=by omega
  subst this;rw [yK (show vs.length<=i by omega)] at aM;simp only [go_sem,ya,K6,H3,show ¬(i:Int)<(i:Int) by omega];exact ⟨_,_,rfl,by simp,_,c,y,rfl,rfl,by simp only [go_sem,ya],by simp only [go_sem,ya],by simp only [go_sem,ya],by simp only [go_sem,ya],by simp only [go_sem,ya],by simp only [go_sem,ya],by simp only [go_sem,ya],by simp only [go_sem,ya],ly,gy,oJ,hc,aM⟩
def axD {A V t:Nat} {y:List Int} {n:Nat} (hV:0<V) (ly:y.length=n+1) (gy:dg (y.take n)) (h:sv y=(A:Int)-t*V) (h1:A/V<=t) (h2:t<=A/V+1):
  (¬y.getD n 0<0->t=A/V/\sv y=((A%V:Nat):Int))/\(y.getD n 0<0->t=A/V+1/\sv y+V=((A%V:Nat):Int)):=by
 have fK:=xM A V;have hm:=xr A hV;have eX:=Ph (l:=y) n;rw [yK (by omega),Am gy] at eX;have MP:=jO gy;have hp:(0:Int)<1000000000^n:=ybY (by decide);generalize y.getD n 0=top at*
 generalize A/V=Q at*
 have hq:t=Q\/t=Q+1:=by omega
 constructor
 ·intro h0;have h3:0<=(1000000000:Int)^n*top:=tD (uf hp) (by omega);rcases hq with rfl | rfl
  ·grind
  ·grind
 ·intro h0;have h3:(1000000000:Int)^n*top<=-(1000000000^n):=by
   have:=vK (show top<=-1 by omega) (uf hp)
   grind
  rcases hq with rfl | rfl
  ·grind
  ·grind
def agJ {y:List Int} {n:Nat} (ly:y.length=n+1) (gy:dg (y.take n)) (h0:0<=sv y) (h1:sv y<1000000000^n):y.getD n 0=0/\dg y/\sv y=dv y:=by
 have eX:=Ph (l:=y) n;rw [yK (by omega),Am gy] at eX;have MP:=jO gy;rw [yR,xP (by omega)] at MP;have hp:(0:Int)<1000000000^n:=ybY (by decide);have G0:((1000000000^n:Nat):Int)=(1000000000:Int)^n:=by simp
 have aKI:(dv (y.take n):Int)<1000000000^n:=by omega
 have ht:y.getD n 0=0:=by
  generalize y.getD n 0=top at*
  rcases Int.lt_trichotomy top 0 with h | h | h
  ·have:=vK (show top<=-1 by omega) (uf hp)
   grind
  ·grind
  ·have:=vK (show 1<=top by omega) (uf hp)
   grind
 have hg:dg y:=by
  have e:y=y.take n++[0]:=by
   have h1:y=y.take n++y.drop n:=(xS n y).symm;have h2:y.drop n=[0]:=by
    rw [yX (by omega),xn (by omega)]
    grind
   grind
  rw [e];exact ie.2 ⟨gy,kZ.2 ⟨by decide,by decide⟩⟩
 exact ⟨ht,hg,Am hg⟩
end
end
section
open Go (IntKind)
def axE {l:List Int} {i:Nat} (h:i<l.length):dv (l.drop i)=(l.getD i 0).toNat+1000000000*dv (l.drop (i+1)):=by
 rw [yX h]
 have:l[i]=l.getD i 0:=by simp_all
 rw [this];rfl
def Vl (l:List Int) (i:Nat) (h:i<=l.length):dv l=dv (l.take i)+1000000000^i*dv (l.drop i):=by
 conv=>lhs;rw [<-xS i l]
 rw [nk,yR,xP h]
def axF {sx sy sV:Int} {p:Int} {bo t:Int} {yn z:Int} {szy:Int} (h1:sy+t*sV=sx+p*bo) (h2:szy=sy+p*(z-yn)) (h3:z=yn-bo):szy=sx-t*sV:=by grind
section
variable {P:aJ} {L:Lib}
def axG (rJ:Has P L 301 Ay) {w:AV} {vs:List Int} {f:Int} (hw:bB w vs) (gv:dg vs) {n M m:Nat} (lv:vs.length=n) (eM:2<=n) (hnM:n<M) (NS:M<=20000000000) (hm:m=M-n) (fg:0<vs.getD (n-1) 0) {U0:Nat}:
  ∀k st,(∃(j:Nat) (us qs:List Int),bS [8,9,10,11,12,13] st=⟨[(8,.ay 0 0 1),(9,w),(10,ab n),(11,.ay 1 0 M),(12,.ay 2 0 m),(13,ab ((j:Int)-1))],H3 qs us f,3,0⟩/\j=k/\j<=m/\us.length=M/\qs.length=m/\dg us/\dg qs/\(∀i,i<j->qs.getD i 0=0)/\
    dv us+dv qs*dv vs=U0/\dv (us.drop j)<dv vs)->
   ∃ex st',D P L (.loop [8,9,10,11,12,13] K7) st=some (ex,st')/\∃tm us qs,st'=⟨tm,H3 qs us f,3,0⟩/\ex= .exit 2/\ak tm 8= .ay 0 0 1/\ak tm 10=ab n/\ak tm 11= .ay 1 0 M/\ak tm 12= .ay 2 0 m/\us.length=M/\qs.length=m/\dg us/\dg qs/\
    dv us+dv qs*dv vs=U0/\dv us<dv vs:=by
 refine cR (I:=fun k st=>∃(j:Nat) (us qs:List Int),st=⟨[(8,.ay 0 0 1),(9,w),(10,ab n),(11,.ay 1 0 M),(12,.ay 2 0 m),(13,ab ((j:Int)-1))],H3 qs us f,3,0⟩/\j=k/\j<=m/\us.length=M/\qs.length=m/\dg us/\dg qs/\(∀i,i<j->qs.getD i 0=0)/\
    dv us+dv qs*dv vs=U0/\dv (us.drop j)<dv vs)
  (Q:=fun ex st'=>∃tm us qs,st'=⟨tm,H3 qs us f,3,0⟩/\ex= .exit 2/\ak tm 8= .ay 0 0 1/\ak tm 10=ab n/\ak tm 11= .ay 1 0 M/\ak tm 12= .ay 2 0 m/\us.length=M/\qs.length=m/\dg us/\dg qs/\
    dv us+dv qs*dv vs=U0/\dv us<dv vs) ?_
 rintro k st ⟨j,us,qs,rfl,rfl,hj,lu,lq,gu,gq,hz,aM,oJ⟩
 cases j with
 | zero=>
  right
  simp only [go_sem,ya,K7,H3,show ¬(0:Int)<=((0:Nat):Int)-1 by omega];exact ⟨_,_,rfl,by simp,_,us,qs,rfl,rfl,by simp only [go_sem,ya],by simp only [go_sem,ya],by simp only [go_sem,ya],by simp only [go_sem,ya],lu,lq,gu,gq,aM,by simpa using oJ⟩
 | succ j=>
  left
  obtain ⟨pre,fj⟩:∃p,p=us.take j:=⟨_,rfl⟩;obtain ⟨x,hx⟩:∃p,p=(us.drop j).take (n+1):=⟨_,rfl⟩;obtain ⟨post,gJ⟩:∃p,p=us.drop (j+(n+1)):=⟨_,rfl⟩;have lp:pre.length=j:=by rw [fj,yR];omega
  have lx:x.length=n+1:=by rw [hx,yR,wm];omega
  have lpo:M=pre.length+(n+1)+post.length:=by rw [lp,gJ,wm];omega
  have j9:us=pre++x++post:=by
   rw [fj,hx,gJ,<-vG,xD,xS,xS]
  have gpo:dg post:=by
   have:=gu;rw [j9] at this;exact (ie.1 this).2
  have gpx:=by have:=gu;rw [j9] at this;exact (ie.1 this).1
  have gx:dg x:=(ie.1 gpx).2;have abq:dg pre:=(ie.1 gpx).1;have hA:=axE (l:=us) (i:=j) (by omega);have hgj:=ij gu j;have hdx:us.drop j=x++post:=by rw [gJ,hx,<-vG,xS]
  have Bt:dv (us.drop j)=dv x+1000000000^(n+1)*dv post:=by rw [hdx,nk,lx]
  have NG:=jO gv;rw [lv] at NG;have aZ:dv (us.drop j)<1000000000*dv vs:=by omega
  have hp0:dv post=0:=by
   rcases xj (dv post) with e | e
   ·exact e
   ·have h1:=yT (1000000000^(n+1)) e;rw [yj,xh] at h1;rw [xh] at Bt;omega
  rw [hp0,xG,yW] at Bt;have NU:=fun (l:List Int) (hl:dg l) (i:Nat)=>ij hl i
  obtain ⟨v1,fh⟩:∃v:Nat,vs.getD (n-1) 0=v:=⟨(vs.getD (n-1) 0).toNat,by have:=NU vs gv (n-1);omega⟩;obtain ⟨v2,qQ⟩:∃v:Nat,vs.getD (n-2) 0=v:=⟨(vs.getD (n-2) 0).toNat,by have:=NU vs gv (n-2);omega⟩;obtain ⟨u0,Dr⟩:∃v:Nat,x.getD n 0=v:=⟨(x.getD n 0).toNat,by have:=NU x gx n;omega⟩;obtain ⟨u1,Ds⟩:∃v:Nat,x.getD (n-1) 0=v:=⟨(x.getD (n-1) 0).toNat,by have:=NU x gx (n-1);omega⟩;obtain ⟨u2,zx⟩:∃v:Nat,x.getD (n-2) 0=v:=⟨(x.getD (n-2) 0).toNat,by have:=NU x gx (n-2);omega⟩;have hl:fW x vs n v1 v2 u0 u1 u2:=⟨eM,by omega,lx,lv,gx,gv,fh,qQ,Dr,Ds,zx,by omega,by rw [<-Bt];exact aZ⟩
  have Sb:=hl.digit;have rQ:0<dv vs:=by omega
  have sP:=xr (dv x) rQ;obtain ⟨t,e1,ht1,ht2,ht3⟩:=aCW (P:=P) (L:=L) rJ hw hl (pre:=pre) (post:=post) (qs:=qs) (f:=f) (M:=M) (by omega) (by omega);rw [<-j9,lp] at e1;have hbu:dv us=dv pre+1000000000^j*dv x:=by
   have:=Vl us j (by omega)
   rw [Bt,<-fj] at this;exact this
  have abr:∀y,dv (pre++y++post)=dv pre+1000000000^j*dv y:=fun y=>by
   rw [xD,nk,nk,hp0,xG,yW,lp]
  have lZ:=afL (b:=0) hbu aM;have zy:below 3 w:=qX hw.pu;have bf:=GP (l:=qs) (i:=j) (x:=((dv x/dv vs:Nat):Int)) (by omega);have gq':dg (qs.set j ((dv x/dv vs:Nat):Int)):=Pw gq ⟨tx _,ue.2 Sb⟩;rw [hz j (by omega),Int.sub_zero,Am gq,Am gq'] at bf;have bf:dv (qs.set j ((dv x/dv vs:Nat):Int))=dv qs+1000000000^j*(dv x/dv vs):=by
   have G0:((1000000000^j*(dv x/dv vs):Nat):Int)=(1000000000:Int)^j*((dv x/dv vs:Nat):Int):=by rw [xE];simp
   rw [<-G0] at bf;exact uY (by rw [yak,yak,bf,yaW])
  have fin:∀(s':St) (x':List Int),bS [8,9,10,11,12,13] s'=⟨[(8,.ay 0 0 1),(9,w),(10,ab n),(11,.ay 1 0 M),(12,.ay 2 0 m),(13,ab ((j:Int)-1))],H3 (qs.set j ((dv x/dv vs:Nat):Int)) (pre++x'++post) f,3,0⟩->x'.length=n+1->dg x'->sv x'=((dv x%dv vs:Nat):Int)->
    ∃(j':Nat) (us qs:List Int),bS [8,9,10,11,12,13] s'=⟨[(8,.ay 0 0 1),(9,w),(10,ab n),(11,.ay 1 0 M),(12,.ay 2 0 m),(13,ab ((j':Int)-1))],H3 qs us f,3,0⟩/\j'=j/\j'<=m/\us.length=M/\qs.length=m/\dg us/\dg qs/\(∀i,i<j'->qs.getD i 0=0)/\dv us+dv qs*dv vs=U0/\dv (us.drop j')<dv vs:=fun s' x' hc lx' Tk NJ=>by
   have anN:dv x'=dv x%dv vs:=by rw [Am Tk] at NJ;exact uY NJ
   refine ⟨j,_,_,hc,rfl,by omega,by rw [oy,lx'];omega,by simp [lq],ie.2 ⟨ie.2 ⟨abq,Tk⟩,gpo⟩,gq',fun i hi=>by rw [ak4 (by omega)];exact hz i (by omega),?_,?_⟩
   ·rw [abr,anN,bf];exact lZ
   ·rw [xD,List.drop_left' lp,nk,hp0,xG,yW,anN];exact sP
  have anO:=fun (z:Int) (hp:Hp) (ct:Nat)=>Dy (hp:=hp) (ct:=ct) (id:=2) (v:=z) (ex:=true) (l:=qs) (o:=j) (by omega)
  have svx:=Am gx;have svv:=Am gv;simp only [H3] at e1;simp only [go_sem,ya,K7,H3,show ((j+1:Nat):Int)-1=(j:Int) by omega,show (0:Int)<=(j:Int) by omega,alJ,e1];generalize mX:D P L (.loop [8,9,10,11,12,13,14,15,16] GF) _=qq;obtain ⟨ex,s,rfl,tm,bo,y,rfl,rfl,t8,t9,t10,t11,t12,t13,t14,t15,ly,gy,jn,hv⟩:=cG mX (axA (P:=P) (L:=L) (x:=x) (pre:=pre) (post:=post) (qs:=qs) (f:=f) (m:=m) (M:=M) hw lv lpo (by omega) gv (t:=t) (by omega) n) ⟨0,0,x,by
   rw [j9,lp]
   simp only [go_sem,ya,yb,aH,aR hw.pu,aW _ hw.pu]<;>rfl,by omega,lx,gx,by omega,by simp [sv]⟩
  rw [lp] at t13;have hyn:=ij gy n;have eyn:=sC (l:=pre++y++post) (o:=pre.length+n) (by rw [oy];omega);rw [Cg (by omega),lp] at eyn;obtain ⟨z,hzz⟩:∃z,z=y.getD n 0-bo:=⟨_,rfl⟩;have Hb:=fun (hp:Hp) (ct:Nat)=>Dy (hp:=hp) (ct:=ct) (id:=1) (v:=z) (ex:=false) (l:=pre++y++post) (o:=j+n) (by rw [oy];omega)
  have oI:=PD (pre:=pre) (x:=y) (post:=post) (i:=n) z (by omega);rw [lp] at oI;rw [oI] at Hb;have nS:=GP (l:=y) (i:=n) (x:=z) (by omega);have Qe:=axF hv nS hzz;have Dq:(y.set n z).length=n+1:=by simp [ly]
  have FC:dg ((y.set n z).take n):=by
   have:(y.set n z).take n=y.take n:=by rw [tJ,tI (by simp;omega)]
   rw [this];exact DX gy n
  rw [svx,svv] at Qe;obtain ⟨s0,s1⟩:=axD rQ Dq FC Qe ht2 ht3;have eg:(y.set n z).getD n 0=z:=ato (by omega);rw [eg] at s0 s1;have ezn:=sC (l:=pre++y.set n z++post) (o:=pre.length+n) (by rw [oy];omega);rw [Cg (by omega),lp,eg] at ezn;generalize y.set n z=y1 at*
  have hpn:((10^9:Int))=1000000000:=by decide
  by_cases hO:z<0
  ·obtain ⟨f1,f2⟩:=s1 hO
   simp only [go_sem,ya,yb,yj,aH,aR hw.pu,aW _ hw.pu,t8,t9,t10,t11,t12,t13,t14,t15,show (j:Int)+(n:Int)=((j+n:Nat):Int) from rfl,wrapN (n:=j+n) (by omega),dD 1 0 (show j+n<M by omega),yd,eyn,<-hzz,wrap64 (n:=z) (by omega) (by omega),Hb,ezn,hO];generalize E0:D P L (.loop [8,9,10,11,12,13,14,19,20] K6) _=qq2;obtain ⟨ex,s,rfl,sZ,c,y2,rfl,rfl,t8,t9,t10,t11,t12,t13,t14,t19,ly2,Ti,alP,hc,dM⟩:=cG E0 (axC (P:=P) (L:=L) (y0:=y1) (pre:=pre) (post:=post) (qs:=qs) (f:=f) (m:=m) (M:=M) (t:=(t:Int)-1) (top:=z) hw lv lpo (by omega) gv n) ⟨0,0,y1,by
    rw [lp,wrap64 (n:=(t:Int)-1) (by omega) (by omega)]
    simp only [go_sem,ya,yb,aH,aR hw.pu,aW _ hw.pu]<;>rfl,by omega,Dq,FC,eg,by omega,by simp [sv]⟩
   rw [lp] at t13;have anP:=sC (l:=pre++y2++post) (o:=pre.length+n) (by rw [oy];omega);rw [Cg (by omega),lp,alP] at anP;have R9:=fun (hp:Hp) (ct:Nat)=>Dy (hp:=hp) (ct:=ct) (id:=1) (v:=z+c) (ex:=false) (l:=pre++y2++post) (o:=j+n) (by rw [oy];omega)
   have P2:=PD (pre:=pre) (x:=y2) (post:=post) (i:=n) (z+c) (by omega);rw [lp] at P2;rw [P2] at R9;have Bj:=GP (l:=y2) (i:=n) (x:=z+c) (by omega);rw [alP,show z+c-z=c by omega,dM,svv,f2] at Bj;have NH:(y2.set n (z+c)).length=n+1:=by simp [ly2]
   have Tj:dg ((y2.set n (z+c)).take n):=by
    have:(y2.set n (z+c)).take n=y2.take n:=by rw [tJ,tI (by simp;omega)]
    rw [this];exact Ti
   have hmV:((dv x%dv vs:Nat):Int)<1000000000^n:=by
    have G0:((1000000000^n:Nat):Int)=(1000000000:Int)^n:=by simp
    rw [<-G0];omega
   obtain ⟨g1,g2,g3⟩:=agJ NH Tj (by rw [Bj];omega) (by rw [Bj];exact hmV)
   generalize y2.set n (z+c)=y3 at*
   have ft:(t:Int)-1=((dv x/dv vs:Nat):Int):=by rw [f1];omega
   simp only [go_sem,ya,yb,yj,aH,aR hw.pu,aW _ hw.pu,t8,t9,t10,t11,t12,t13,t14,t19,show (j:Int)+(n:Int)=((j+n:Nat):Int) from rfl,wrapN (n:=j+n) (by omega),dD 1 0 (show j+n<M by omega),yd,anP,wrap64 (n:=z+c) (by omega) (by omega),R9,dD 2 0 (show j<m by omega),anO];rw [ft];refine ⟨_,j,rfl,by omega,fin _ y3 ?_ NH g2 Bj⟩;rw [wrap64 (by omega) (by omega)];simp only [go_sem,ya,yb,aH,aR hw.pu,aW _ hw.pu]<;>rfl
  ·obtain ⟨f1,f2⟩:=s0 hO;have hmV:((dv x%dv vs:Nat):Int)<1000000000^n:=by
    have G0:((1000000000^n:Nat):Int)=(1000000000:Int)^n:=by simp
    rw [<-G0];omega
   obtain ⟨g1,g2,g3⟩:=agJ Dq FC (by rw [f2];omega) (by rw [f2];exact hmV)
   simp only [go_sem,ya,yb,yj,aH,aR hw.pu,aW _ hw.pu,t8,t9,t10,t11,t12,t13,t14,t15,show (j:Int)+(n:Int)=((j+n:Nat):Int) from rfl,wrapN (n:=j+n) (by omega),dD 1 0 (show j+n<M by omega),yd,eyn,<-hzz,wrap64 (n:=z) (by omega) (by omega),Hb,ezn,hO,dD 2 0 (show j<m by omega),anO];rw [f1];refine ⟨_,j,rfl,by omega,fin _ y1 ?_ Dq g2 f2⟩;rw [wrap64 (by omega) (by omega)];simp only [go_sem,ya,yb,aH,aR hw.pu,aW _ hw.pu]<;>rfl
end
end
section
open Go (IntKind)
section
variable {P:aJ} {L:Lib}
def aBq (h:Has P L 292 Ax) {n:Nat} (hn:n<1000000000):ai P L 292 [ab n,ab 9] (.str (iK 9 n)):=by
 have key:=cR (P:=P) (L:=L) (live:=[0,1,5]) (a:=om)
  (I:=fun k st=>∃(m:Nat) (s:List Nat),st=⟨[(0,ab m),(1,ab 9),(5,.str s)],[],0,0⟩/\s.length+k=9/\m<10^k/\iK 9 n=iK k m++s)
  (Q:=fun ex st=>∃tm ct,st=⟨tm,[],ct,0⟩/\ex= .exit 0/\ak tm 5= .str (iK 9 n)) ?_
 ·unfold ai;rw [ax h];simp only [go_sem,Ax];generalize hq:D P L (.loop [0,1,5] om) _=q;obtain ⟨ex,st,rfl,tm,ct,rfl,rfl,h2⟩:=cG hq (key 9) ⟨n,[],by simp only [go_sem,ya,aH]<;>rfl,rfl,by omega,by simp⟩
  simp only [go_sem,aH,h2]
 ·rintro k st ⟨m,s,rfl,hk,hm,hs⟩
  cases k with
  | zero=>
   right
   have hm0:m=0:=by simpa using hm
   subst hm0;simp only [go_sem,ya,om,show ¬(0:Int)<((0:Nat):Int) by omega,show ¬((s.length:Nat):Int)<9 by omega];refine ⟨_,_,rfl,by simp,_,_,rfl,rfl,?_⟩;rw [hs];rfl
  | succ k=>
   left
   have hr:((m:Int)).tmod 10=((m%10:Nat):Int):=by rw [wc (by omega)];rfl
   have hq:((m:Int)).tdiv 10=((m/10:Nat):Int):=by rw [xX (by omega)];rfl
   have hd:=aeX (r:=m%10) (by omega);have Nf:m<10000000000:=yO hm (by simpa using xx (show 0<10 by decide) (show k+1<=10 by omega));have fin:∃s',D P L om ⟨[(0,ab m),(1,ab 9),(5,.str s)],[],0,0⟩=some (.normal,s')/\bS [0,1,5] s'=⟨[(0,ab (m/10:Nat)),(1,ab 9),(5,.str ([48+m%10]++s))],[],0,0⟩:=by
    by_cases hc:(0:Int)<m
    ·simp only [go_sem,ya,yb,om,hc,gF _ _ _ (show (10:Int)≠0 by decide),fq _ _ _ (show (10:Int)≠0 by decide),hr,hq,wrapN (n:=m%10+1) (by omega),wrap64 (n:=((m/10:Nat):Int)) (by omega) (by omega),eR,dO,show ((m%10:Nat):Int)+1=((m%10+1:Nat):Int) from rfl,hd,gH (a:=[48+m%10]) (b:=s) (by simp;omega)];exact ⟨_,rfl,by simp only [go_sem,ya,aH]⟩
    ·simp only [go_sem,ya,yb,om,hc,show ((s.length:Nat):Int)<9 by omega,gF _ _ _ (show (10:Int)≠0 by decide),fq _ _ _ (show (10:Int)≠0 by decide),hr,hq,wrapN (n:=m%10+1) (by omega),wrap64 (n:=((m/10:Nat):Int)) (by omega) (by omega),eR,dO,show ((m%10:Nat):Int)+1=((m%10+1:Nat):Int) from rfl,hd,gH (a:=[48+m%10]) (b:=s) (by simp;omega)];exact ⟨_,rfl,by simp only [go_sem,ya,aH]⟩
   obtain ⟨s',f1,f2⟩:=fin;exact ⟨s',k,f1,by omega,m/10,_,f2,by simp;omega,by rw [xh] at hm;omega,by rw [hs];simp [iK]⟩
end
end
section
open Go (IntKind)
def last_pos {l:List Int} (hd:dg l) (hn:nz l) (h:0<l.length):0<l.getD (l.length-1) 0:=by
 rcases snoc l with rfl | ⟨m,a,rfl⟩
 ·grind
 ·have e:(m++[a]).getD ((m++[a]).length-1) 0=a:=by simp_all
  have ha:=kZ.1 (ie.1 hd).2;by_cases h0:a=0
  ·subst h0
   have:=Ox m
   have e:=congrArg List.length hn;rw [J6] at e
   grind
  ·omega
section
variable {P:aJ} {L:Lib}
def aBr (p6:Has P L 292 Ax) {neg:Bool} {w:AV} {l:List Int} (hw:bB w l) (hd:dg l) (hn:nz l) (hl:l.length<=20000000000):
  ∀k s,(∃(j:Nat) (t:List Nat),bS [1,3,4] s=⟨[(1,.ptr 0 0),(3,.str t),(4,ab ((j:Int)-1))],[(0,.cells true true true 2 [.bool neg,w])],1,0⟩/\j=k/\j<l.length/\0<dv (l.drop j)/\t=au (dv (l.drop j))/\t.length<=9*(l.length-j))->
   ∃ex s',D P L (.loop [1,3,4] K0) s=some (ex,s')/\∃tm,s'=⟨tm,[(0,.cells true true true 2 [.bool neg,w])],1,0⟩/\ex= .exit 0/\ak tm 1= .ptr 0 0/\ak tm 3= .str (au (dv l))/\(au (dv l)).length<=180000000000:=by
 refine cR (I:=fun k s=>∃(j:Nat) (t:List Nat),s=⟨[(1,.ptr 0 0),(3,.str t),(4,ab ((j:Int)-1))],[(0,.cells true true true 2 [.bool neg,w])],1,0⟩/\j=k/\j<l.length/\0<dv (l.drop j)/\t=au (dv (l.drop j))/\t.length<=9*(l.length-j))
  (Q:=fun ex s'=>∃tm,s'=⟨tm,[(0,.cells true true true 2 [.bool neg,w])],1,0⟩/\ex= .exit 0/\ak tm 1= .ptr 0 0/\ak tm 3= .str (au (dv l))/\(au (dv l)).length<=180000000000) ?_
 rintro k s ⟨j,t,rfl,rfl,hj,C0,ht,htl⟩
 cases j with
 | zero=>
  right
  rw [ye] at ht;simp only [go_sem,ya,K0,show ¬(0:Int)<=((0:Nat):Int)-1 by omega];exact ⟨_,_,rfl,by simp,_,rfl,rfl,by simp only [go_sem,ya],by rw [<-ht];simp only [go_sem,ya],by rw [<-ht];omega⟩
 | succ i=>
  left
  have hi:i<l.length:=by omega
  obtain ⟨x,hx⟩:∃x,x=l.getD i 0:=⟨_,rfl⟩;have e1:=rz hw hi;have gx:=ij hd i;rw [<-hx] at e1 gx;obtain ⟨m,rfl⟩:∃m:Nat,x=m:=⟨x.toNat,by omega⟩;have e2:=aBq p6 (n:=m) (by omega);unfold ai at e2;have hlp:=Vh 9 m;have iE:dv (l.drop i)=dv (l.drop (i+1))*10^9+m:=by
   have:l.drop i=(m:Int)::l.drop (i+1):=by
    rw [yX hi,hx];simp [wA,vl hi]
   rw [this];simp only [dv,xC];omega
  have aEG:au (dv (l.drop i))=t++iK 9 m:=by
   rw [iE,OO 9 _ m C0 (by omega),ht]
  simp only [go_sem,ya,K0,show ((i+1:Nat):Int)-1=(i:Int) by omega,show (0:Int)<=(i:Int) by omega,aP,yd,bj,e1,e2,gH (a:=t) (b:=iK 9 m) (by omega)];refine ⟨_,i,rfl,by omega,i,t++iK 9 m,?_,rfl,by omega,by omega,aEG.symm,by simp;omega⟩;rw [wrap64 (by omega) (by omega)];simp only [go_sem,ya,yb,aH]<;>rfl
def abN (h:Has P L 282 L4) (p6:Has P L 292 Ax) {v:AV} {n:Int} {K:Nat} (hK:K<=18000000000) (hv:jq v n) (hn:n.natAbs<1000000000^K):ai P L 282 [v] (.str (aV n))/\(aV n).length<=180000000001:=by
 obtain ⟨w,l,rfl,hw,hd,hz,qU⟩:=hv;have hl:=yS (ik hd hz (by rw [qU];exact hn)) hK
 by_cases h0:l=[]
 ·subst h0;have Dd:n=0:=by simp [dv] at qU;omega
  subst Dd;refine ⟨?_,by decide⟩;unfold ai;rw [ax h];simp only [go_sem,ya,yb,L4,az,hw.len,hw.pu,hw.one,aP,yd,bj,yJ,show ((0:Nat):Int)=(0:Int) from rfl,ym];rfl
 ·have C0:0<l.length:=uT.2 h0;obtain ⟨x,hx⟩:∃x,x=l.getD (l.length-1) 0:=⟨_,rfl⟩;have e1:=rz hw (show l.length-1<l.length by omega);have gx:=ij hd (l.length-1);have gp:=last_pos hd hz C0;rw [<-hx] at e1 gx gp;obtain ⟨m,rfl⟩:∃m:Nat,x=m:=⟨x.toNat,by omega⟩;have e2:=abk p6 (n:=m) (by omega);have iE:dv (l.drop (l.length-1))=m:=by
   rw [yX (show l.length-1<l.length by omega),xn (by omega)]
   have:l[l.length-1]=(m:Int):=by rw [hx];simp [wA,vl (show l.length-1<l.length by omega)]
   simp [dv,this]
  have h9:(au m).length<=9:=se (k:=8) (by omega);have fin:∀neg:Bool,bZ P L (D P L) 282 [.agg [.bool neg,w]]=some (.str ((if neg=true then [45] else [])++au (dv l)))/\(au (dv l)).length<=180000000000:=fun neg=>by
   rw [ax h]
   simp only [go_sem,ya,yb,L4,az,hw.len,hw.pu,hw.one,aP,yd,bj,show ¬(l.length:Int)=0 by omega,show (l.length:Int)-1=((l.length-1:Nat):Int) by omega,wrapN (n:=l.length-1) (by omega),e1,e2];generalize hq:D P L (.loop [1,3,4] K0) _=q;obtain ⟨ex,s,rfl,tm,rfl,rfl,t1,t3,hlen⟩:=cG hq (aBr (P:=P) (L:=L) p6 (neg:=neg) hw hd hz (by omega) (l.length-1)) ⟨l.length-1,au m,by
    rw [show (l.length:Int)-2=((l.length-1:Nat):Int)-1 by omega,wrap64 (by omega) (by omega)]
    simp only [go_sem,ya,yb,aH]<;>rfl,rfl,by omega,by rw [iE];omega,by rw [iE],by omega⟩
   refine ⟨?_,hlen⟩
   cases neg with
   | true=>
    simp only [go_sem,ya,aH,t1,t3,aP,yd,gH (a:=[45]) (b:=au (dv l)) (by simp;omega),xm]
   | false=>
    simp only [go_sem,ya,aH,t1,t3,aP,yd];rfl
  obtain ⟨f1,f2⟩:=fin (decide (n<0));rw [qU] at f1 f2;simp only [xt] at f1;rw [oc] at f1;refine ⟨f1,?_⟩;rw [<-oc]
  split<;>simp<;>omega
structure Rb (P:aJ) (L:Lib):Prop where
 aEH:Has P L 262 LX
 AI:Has P L 272 L3
 anQ:Has P L 274 Qy
 anR:Has P L 275 Qz
 aEI:Has P L 277 EK
 aEJ:Has P L 280 oC
 aEK:Has P L 281 W8
 abO:Has P L 282 L4
 anS:Has P L 288 QC
 MR:Has P L 289 sH
 AJ:Has P L 290 Hw
 abl:Has P L 291 L6
 p6:Has P L 292 Ax
 lC:Has P L 293 CE
 iL:Has P L 294 CF
 Sk:Has P L 295 L7
 oN:Has P L 296 sI
 anT:Has P L 298 QD
 p9:Has P L 299 CG
 cZ:Has P L 300 ma
 mQ:Has P L 302 sJ
structure Ras (P:aJ) (L:Lib):Prop extends Rb P L where
 anU:Has P L 264 LY
 aEL:Has P L 268 L2
 aEM:Has P L 271 W7
 aEN:Has P L 276 pV
 MS:Has P L 278 QA
 aEO:Has P L 279 Hu
 Sl:Has P L 297 L8
structure Ra (P:aJ) (L:Lib):Prop extends Ras P L where
 anV:Has P L 267 LZ
end
end
section
open Go (IntKind)
section
variable {P:aJ} {L:Lib}
def axH {v w:AV} {a vs:List Int} {f:Int} (hv:bB v a) (hw:bB w vs) {n:Nat} (la:a.length<=9000000000) {A:Nat}:
  ∀k st,(∃us:List Int,bS [0,8,9,10,11] st=⟨[(0,v),(8,.ay 0 0 1),(9,w),(10,ab n),(11,.ay 1 0 us.length)],[(1,.cells true true false 1 (us.map ab)),(0,.cells false true true 1 [ab f])],2,0⟩/\us.length+k=a.length+1/\dg us/\dv us=A)->
   ∃ex st',D P L (.loop [0,8,9,10,11] K5) st=some (ex,st')/\∃tm us,st'=⟨tm,[(1,.cells true true false 1 (us.map ab)),(0,.cells false true true 1 [ab f])],2,0⟩/\ex= .exit 0/\ak tm 8= .ay 0 0 1/\ak tm 9=w/\ak tm 10=ab n/\ak tm 11= .ay 1 0 (a.length+1)/\us.length=a.length+1/\dg us/\dv us=A:=by
 refine cR (I:=fun k st=>∃us:List Int,st=⟨[(0,v),(8,.ay 0 0 1),(9,w),(10,ab n),(11,.ay 1 0 us.length)],[(1,.cells true true false 1 (us.map ab)),(0,.cells false true true 1 [ab f])],2,0⟩/\us.length+k=a.length+1/\dg us/\dv us=A)
  (Q:=fun ex st'=>∃tm us,st'=⟨tm,[(1,.cells true true false 1 (us.map ab)),(0,.cells false true true 1 [ab f])],2,0⟩/\ex= .exit 0/\ak tm 8= .ay 0 0 1/\ak tm 9=w/\ak tm 10=ab n/\ak tm 11= .ay 1 0 (a.length+1)/\us.length=a.length+1/\dg us/\dv us=A) ?_
 rintro k st ⟨us,rfl,hk,gu,aM⟩;have ea:((a.length:Nat):Int)+1=((a.length+1:Nat):Int):=rfl;by_cases hi:us.length<a.length+1
 ·left
  simp only [go_sem,ya,yb,yi,yj,K5,hv.len,ea,wrapN (n:=a.length+1) (by omega),show ((us.length:Nat):Int)<((a.length+1:Nat):Int) by omega]
  rw [my (ex:=false) (pu:=true) (cs:=us.map ab) (by simp only [go_sem,ya]) (by simp) (by omega) (by omega) (by decide) (by simp only [go_sem])];refine ⟨_,k-1,rfl,by omega,us++[0],?_,by simp;omega,ie.2 ⟨gu,kZ.2 (by decide)⟩,by rw [nk];simp [dv,aM]⟩;rw [xR,yU];simp only [go_sem,ya,yb,aH,aR hv.pu,aW _ hv.pu,aR hw.pu,aW _ hw.pu]<;>rfl
 ·right
  have hl:us.length=a.length+1:=by omega
  rw [hl]
  simp only [go_sem,ya,K5,hv.len,ea,wrapN (n:=a.length+1) (by omega),show ¬((a.length+1:Nat):Int)<((a.length+1:Nat):Int) by omega];exact ⟨_,_,rfl,by simp,_,us,rfl,rfl,by simp only [go_sem,ya],by simp only [go_sem,ya],by simp only [go_sem,ya],by simp only [go_sem,ya],hl,gu,aM⟩
end
def ak5:∀l:List Int,cr (l.map ab)=true
 | []=>rfl
 | a::r=>by rw [xi,afF,ak5 r];rfl
def ak6:∀l:List Int,aO (l.map ab)=true
 | []=>rfl
 | a::r=>by rw [xi,aO,ak6 r];rfl
def axI {hp:Hp} {ct:Nat} {e:Bool} {us:List Int} {o:Obj} (h:us.length<=100000000000):
  CT ((1,.cells true true true 1 [])::(0,o)::hp) ct 1 8 (.ay 1 0 0) (rb ((1,.cells true true true 1 [])::(0,o)::hp) 1 (.ap e us.length (us.map ab)))=some (.ay ct 0 us.length,(ct,.cells true true false 1 (us.map ab))::eT ((1,.cells true true true 1 [])::(0,o)::hp) 1,ct+1):=by
 have h1:rb ((1,.cells true true true 1 [])::(0,o)::hp) 1 (.ap e us.length (us.map ab))=some (us.length,us.map ab):=by
  simp [rb]
 rw [h1,my (cs:=[]) (pu:=true) (ex:=true) rfl (by simp) (by omega) (by omega) (by decide) (ak5 us),ak6,yd];rfl
def aBs {l:List Int} (hd:dg l) (hn:nz l) (h:0<l.length):1000000000^(l.length-1)<=dv l:=PW hn hd (fun e=>by subst e;simp at h)
def avy {n top f V:Nat} (hf:f=1000000000/(top+1)) (ht0:0<top) (ht:top<1000000000) (h1:V<1000000000^(n-1)*(top+1)) (hn:0<n):0<f/\f<1000000000/\V*f<1000000000^n:=by
 have h2:f*(top+1)<=1000000000:=by rw [hf];exact Nat.div_mul_le_self _ _
 have h3:0<f:=by rw [hf];exact Nat.div_pos (by omega) (by omega)
 refine ⟨h3,?_,?_⟩
 ·have:=yT f (show 2<=top+1 by omega)
  omega
 ·have e1:=wJ h1 h3;have e2:=yT (1000000000^(n-1)) h2;rw [<-xh,show (n-1).succ=n by omega] at e2
  grind
section
variable {P:aJ} {L:Lib}
def aBt (h:Has P L 289 sH) (lC:Has P L 293 CE) (p9:Has P L 299 CG) (cZ:Has P L 300 ma) (rJ:Has P L 301 Ay) {v w:AV} {a b:List Int} (hv:bB v a) (hw:bB w b) (ha:dg a) (hb:dg b) (na:nz a) (nb:nz b) (la:a.length<=8000000000) (lb:2<=b.length) (ec:ai P L 296 [v,w] (ab (ef (dv a) (dv b)))) (hc:dv b<=dv a):
  ∃q r lq lr,ai P L 289 [v,w] (.af [q,r])/\bB q lq/\bB r lr/\dg lq/\nz lq/\dg lr/\nz lr/\dv lq=dv a/dv b/\dv lr=dv a%dv b:=by
 have eN:¬ef (dv a) (dv b)<0:=by unfold ef;rw [yp (by omega)];split<;>decide
 have aCX:=aBs hb nb (by omega);have hba:b.length<=a.length:=by
  have:=jO ha
  have h1:1000000000^(b.length-1)<1000000000^a.length:=by omega
  have:=(tL (show 1<1000000000 by decide)).1 h1
  omega
 obtain ⟨n,hn⟩:∃n,n=b.length:=⟨_,rfl⟩;have aEP:=ij hb (n-1);have Cr:=last_pos hb nb (by omega);rw [<-hn] at Cr;obtain ⟨top,oJ⟩:∃v:Nat,b.getD (n-1) 0=v:=⟨(b.getD (n-1) 0).toNat,by omega⟩;have anW:=rz hw (i:=n-1) (by omega);rw [oJ] at aEP Cr anW;have hbt:=px (l:=b) (n-1);rw [show n-1+1=n by omega,yK (by omega),oJ,xC] at hbt;have aCY:=jO (DX hb (n-1));rw [yR,xP (by omega)] at aCY;obtain ⟨f,hf⟩:∃f,f=1000000000/(top+1):=⟨_,rfl⟩;obtain ⟨FJ,hfB,hfV⟩:=avy (n:=n) (V:=dv b) hf (by omega) (by omega) (by rw [xz,yj];omega) (by omega);have hIf:bB (.ap true 1 [ab f]) [(f:Int)]:=gG true [(f:Int)];have gf:dg [(f:Int)]:=kZ.2 (by omega);have vf:dv [(f:Int)]=f:=by simp [dv]
 obtain ⟨v',vs,e1,eK,hsv,FE,NK,zA⟩:=abK lC cZ hw hIf hb gf (by omega) (by simp);obtain ⟨u',DA,e2,jr,Fy,IL,nus,NV⟩:=abK lC cZ hv hIf ha gf (by omega) (by simp);rw [vf] at zA NV;have rQ:0<dv b:=by have:=Nat.pow_pos (n:=b.length-1) (show 0<1000000000 by decide);omega
 have Bu:vs.length=n:=by
  have h1:vs.length<=n:=ik FE NK (by rw [zA];exact hfV)
  have h2:dv b<=dv vs:=by rw [zA];exact Nat.le_mul_of_pos_right _ FJ
  have h3:=jO FE;have h4:1000000000^(n-1)<1000000000^vs.length:=by rw [hn];omega
  have:=(tL (show 1<1000000000 by decide)).1 h4
  omega
 have Tl:DA.length<=a.length+1:=by
  refine ik IL nus ?_;rw [NV,xh];exact Nat.mul_lt_mul'' (jO ha) hfB
 have anX:0<DA.length:=by
  rcases xj DA.length with e | e
  ·have h1:0<dv a*f:=yaT (by omega) FJ;rw [yN e] at NV;simp only [dv] at NV;omega
  ·exact e
 have fg:0<vs.getD (n-1) 0:=by
  have:=last_pos FE NK (by omega)
  rwa [Bu] at this
 obtain ⟨m,hm⟩:∃m,m=a.length+1-n:=⟨_,rfl⟩;have cV:∀ct:Nat,AH ct 1 8 [.int .i64 0] (some m) (some m)=some (.ay ct 0 m,.cells true true true 1 ((yF m (0:Int)).map ab)):=fun ct=>by
  rw [Lh (sz:=1) (by omega) (by omega) (by rfl) (by rfl),Uw];rfl
 obtain ⟨e,rfl⟩:∃e,u'= .ap e DA.length (DA.map ab):=by
  rcases jr with ⟨rfl,h0⟩ | ⟨e,rfl⟩
  ·rw [List.map_eq_nil_iff] at h0;rw [h0] at anX;simp at anX
  ·exact ⟨e,by rw [xq]⟩
 have WC:∀us:List Int,us.length=a.length+1->dv us=dv a*f->dv (us.drop m)<dv vs:=fun us hl hd=>by
  have e1:=Vl us m (by omega);have e2:=jO ha;have e3:=wJ e2 FJ;have e4:1000000000^a.length=1000000000^m*1000000000^(n-1):=by rw [<-Nat.pow_add];congr 1;omega
  rw [<-hd,e4,xo] at e3;have e5:1000000000^m*dv (us.drop m)<1000000000^m*(1000000000^(n-1)*f):=by omega
  refine yO (Nat.lt_of_mul_lt_mul_left e5) ?_;rw [zA,hn];exact yY _ aCX
 have iz:∃us qs,(us.length=a.length+1/\qs.length=m/\dg us/\dg qs/\dv us+dv qs*dv vs=dv a*f/\dv us<dv vs)/\
   ∃q1 r1 lr,bB q1 (et qs)/\bB r1 lr/\dg lr/\nz lr/\dv lr=dv (us.take n)/f/\ai P L 289 [v,w] (.af [q1,r1]):=by
  unfold ai at ec e1 e2;unfold ai;rw [ax h];have MG:IntKind.wrap .i64 ((1000000000:Int).tdiv ((top+1:Nat):Int))=(f:Int):=by
   rw [xX (by decide),show (1000000000:Int)/((top+1:Nat):Int)=((1000000000/(top+1):Nat):Int) from rfl,<-hf,wrap64 (by omega) (by omega)]
  simp only [go_sem,ya,yb,yr,yi,yj,sH,hv.ao,hw.len,hw.ao,ec,eN,show ¬(n:Int)=1 by omega,<-hn,show (n:Int)-1=((n-1:Nat):Int) by omega,wrapN (n:=n-1) (by omega),anW,show ((top:Nat):Int)+1=((top+1:Nat):Int) from rfl,wrapN (n:=top+1) (by omega),fq _ _ _ (show ((top+1:Nat):Int)≠0 by omega),MG,e1,hsv,eK.len,Bu,e2,Fy,axI (us:=DA) (e:=e) (by omega)];generalize Bo:D P L (.loop [0,8,9,10,11] K5) _=q0;obtain ⟨ex,st,rfl,tm,us,rfl,rfl,t8,t9,t10,t11,lu,gu,vu⟩:=cG Bo (axH (P:=P) (L:=L) (f:=(f:Int)) (n:=n) (A:=dv a*f) hv eK (by omega) (a.length+1-DA.length)) ⟨DA,by
   simp only [go_sem,ya,yb,aH,aR hv.pu,aW _ hv.pu,aR eK.pu,aW _ eK.pu]<;>rfl,by omega,IL,NV⟩
  have em:((a.length+1:Nat):Int)-(n:Int)=(m:Int):=by omega
  have em1:(m:Int)-1=((m-1:Nat):Int):=by omega
  simp only [go_sem,ya,yb,aH,aR eK.pu,aW _ eK.pu,t8,t9,t10,t11,em,wrapN (n:=m) (by omega),cV,em1,wrapN (n:=m-1) (by omega)];generalize fJ:D P L (.loop [8,9,10,11,12,13] K7) _=q1;obtain ⟨ex,st,rfl,sZ,DB,qs,rfl,rfl,t8,t10,t11,t12,lu1,NO,gu1,gq1,aM,aZ⟩:=cG fJ (axG (P:=P) (L:=L) rJ (f:=(f:Int)) eK FE Bu (by omega) (show n<a.length+1 by omega) (by omega) (by omega) fg (U0:=dv a*f) m) ⟨m,us,yF m 0,by
   rw [show ((m-1:Nat):Int)=(m:Int)-1 by omega]
   simp only [go_sem,ya,yb,aH,aR eK.pu,aW _ eK.pu]<;>rfl,rfl,yA _,lu,by simp,gu,agr m,fun i _=>ae7 m i,by rw [agq,Nat.zero_mul,yW,vu],WC us lu vu⟩
  have mc:∀(hp:Hp) tm (y:X),aF hp 1=some (.cells true true false 1 (DB.map ab))->dE tm (a.length+1) (some y)=some n->fC hp (.sl 1) (.ay 1 0 (a.length+1)) tm none (some y)=some (.ay 1 0 n):=fun hp tm y h1 h2=>agz h1 h2 (by omega) (by omega)
  obtain ⟨e',NM⟩:∃e',∀hp:Hp,jR 0 n (some (false,1,DB.map ab,hp))=some (.ap e' n ((DB.take n).map ab),hp):=by
   refine ⟨false&&Nat.blt 0 1&&Nat.beq n (DB.map ab).length,fun hp=>?_⟩;simp only [jR,yd,yj,slice,ye,<-List.map_take];rw [Nat.ble_eq_true_of_le (by simp;omega)];rfl
  have ltk:(DB.take n).length=n:=by rw [yR];omega
  have jo:=gG e' (DB.take n);rw [ltk] at jo;obtain ⟨r0,f1,mi,aEQ⟩:=CU cZ jo (by omega);obtain ⟨r1,lr,f2,eJ,aKX,aCZ,dr,nr,vr⟩:=anM p9 cZ mi (BP (DX gu1 n)) (by have:=Ox (DB.take n);omega) FJ hfB;have NL:=gG true qs;rw [NO] at NL;obtain ⟨q1,f3,fJ,aER⟩:=CU cZ NL (by omega);rw [zL] at vr;unfold ai at f1 f2 f3;refine ⟨DB,qs,⟨lu1,NO,gu1,gq1,aM,aZ⟩,q1,r1,lr,fJ,eJ,dr,nr,vr,?_⟩;have oX:kw 1 0 (AV.ay 0 0 1)=some (.ptr 0 0):=dD 0 0 (show 0<1 by omega)
  simp only [go_sem,ya,yb,aH,t8,t10,t11,t12,mc,dO,NM,f1,aEQ,mi.ao,oX,f2,aCZ,fun hp=>q8 (hp:=hp) (k:=m) (sz:=1) (cs:=qs.map ab) true (by simp [NO]) (by decide),f3,aER];rcases fJ with ⟨rfl,_⟩ | ⟨_,rfl⟩<;>rcases eJ with ⟨rfl,_⟩ | ⟨_,rfl⟩<;>rfl
 obtain ⟨us,qs,⟨lu,lq,gu,gq,aM,aZ⟩,q1,r1,lr,fJ,eJ,dr,nr,vr,e⟩:=iz;rw [zA] at aM aZ;have MG:dv qs=dv a/dv b:=by
  rw [<-Nat.mul_div_mul_right _ _ FJ,<-aM,yaR,xB,Nat.mul_add_div (yaT rQ FJ),wj aZ,yW]
 have Tn:dv us=(dv a%dv b)*f:=by
  rw [<-Nat.mul_mod_mul_right,<-aM,yaR,xB (dv qs),Nat.mul_add_mod,yP aZ]
 have j9:=Vl us n (by omega);have gS:dv (us.drop n)=0:=by
  rcases xj (dv (us.drop n)) with h0 | h0
  ·exact h0
  ·have:=yT (1000000000^n) h0
   omega
 rw [gS,xG,yW] at j9;rw [<-j9,Tn,Nat.mul_div_cancel _ FJ] at vr;exact ⟨q1,r1,_,lr,e,fJ,eJ,BP gq,Gp _,dr,nr,by rw [zL,MG],vr⟩
def alQ (h:Has P L 289 sH) (lC:Has P L 293 CE) (oN:Has P L 296 sI) (p9:Has P L 299 CG) (cZ:Has P L 300 ma) (rJ:Has P L 301 Ay) {v w:AV} {a b:List Int} (hv:bB v a) (hw:bB w b) (ha:dg a) (hb:dg b) (na:nz a) (nb:nz b) (la:a.length<=8000000000) (lb:b.length<=8000000000) (h0:0<dv b):
  ∃q r lq lr,ai P L 289 [v,w] (.af [q,r])/\bB q lq/\bB r lr/\dg lq/\nz lq/\dg lr/\nz lr/\dv lq=dv a/dv b/\dv lr=dv a%dv b:=by
 by_cases hl:b.length<=1
 ·exact aEA h oN p9 cZ hv hw ha hb na nb (by omega) hl h0
 have ec:=abJ oN hv hw ha hb na nb (by omega) (by omega);by_cases hc:dv a<dv b
 ·unfold ai at ec;have eN:ef (dv a) (dv b)= -1:=by unfold ef;rw [yz hc]
  rw [eN] at ec;refine ⟨.aa,v,[],a,?_,DR,hv,rfl,rfl,ha,na,?_,?_⟩
  ·unfold ai;rw [ax h];simp only [go_sem,ya,sH,hv.ao,hw.ao,ec,show (-1:Int)<0 by decide];rcases hv with ⟨rfl,_⟩ | ⟨e,rfl⟩<;>rfl
  ·rw [wj hc];rfl
  ·rw [yP hc]
 ·exact aBt h lC p9 cZ rJ hv hw ha hb na nb la (by omega) ec (by omega)
def alR (h:Has P L 275 Qz) (MR:Has P L 289 sH) (lC:Has P L 293 CE) (oN:Has P L 296 sI) (p9:Has P L 299 CG) (cZ:Has P L 300 ma) (rJ:Has P L 301 Ay) {v w:AV} {a b:List Int} (hv:bB v a) (hw:bB w b) (ha:dg a) (hb:dg b) (na:nz a) (nb:nz b) (la:a.length<=8000000000) (lb:b.length<=8000000000):
  ∃r l,ai P L 275 [v,w] r/\bB r l/\dg l/\nz l/\dv l=wu (dv a) (dv b):=by
 have key:=cR (P:=P) (L:=L) (live:=[0,1]) (a:=KZ)
  (I:=fun k st=>∃x y lx ly,st=⟨[(0,x),(1,y)],[],0,0⟩/\bB x lx/\bB y ly/\dg lx/\nz lx/\dg ly/\nz ly/\lx.length<=8000000000/\ly.length<=8000000000/\dv ly=k/\wu (dv lx) (dv ly)=wu (dv a) (dv b))
  (Q:=fun ex st=>∃tm ct,st=⟨tm,[],ct,0⟩/\ex= .exit 0/\∃x lx,ak tm 0=x/\bB x lx/\dg lx/\nz lx/\dv lx=wu (dv a) (dv b)) ?_
 ·unfold ai;rw [ax h];simp only [go_sem,Qz];generalize hq:D P L (.loop [0,1] KZ) _=q;obtain ⟨ex,st,rfl,tm,ct,rfl,rfl,x,lx,h2,hx,dx,nx,vx⟩:=cG hq (key (dv b)) ⟨v,w,a,b,by simp only [go_sem,ya,aH,aR hv.pu,aW _ hv.pu,aR hw.pu,aW _ hw.pu]<;>rfl,hv,hw,ha,na,hb,nb,la,lb,rfl,rfl⟩
  refine ⟨x,lx,?_,hx,dx,nx,vx⟩;simp only [go_sem,aH,h2,hx.dU,aR hx.pu,aW _ hx.pu]
 ·rintro k st ⟨x,y,lx,ly,rfl,hx,hy,dx,nx,dy,ny,llx,lly,rfl,hg⟩;by_cases h0:ly=[]
  ·right
   subst h0;simp only [go_sem,ya,KZ,hy.len,yJ,show ¬(0:Int)<((0:Nat):Int) by omega];refine ⟨_,_,rfl,by simp,_,_,rfl,rfl,x,lx,by simp only [go_sem,ya],hx,dx,nx,?_⟩;rw [<-hg];simp [dv]
  ·left
   have hp:0<dv ly:=by
    rcases xj (dv ly) with e | e
    ·exact absurd (Vy ny dy e) h0
    ·exact e
   have hl:0<ly.length:=uT.2 h0;obtain ⟨q,r,lq,lr,e1,hq,hr,dq,nq,dr,nr,vq,vr⟩:=alQ MR lC oN p9 cZ rJ hx hy dx dy nx ny llx lly hp;have aZ:dv lr<dv ly:=by rw [vr];exact xr _ hp
   have hB:=jO dy;simp only [go_sem,ya,KZ,hx.ao,hy.len,hy.ao,show (0:Int)<ly.length by omega,e1,hq.b6,hr.b6];refine ⟨_,dv lr,rfl,aZ,y,r,ly,lr,?_,hy,hr,dy,ny,dr,nr,by omega,yS (ik dr nr (Nat.lt_trans aZ hB)) lly,rfl,?_⟩
   ·simp only [go_sem,ya,aH,aR hy.pu,aW _ hy.pu,aR hr.pu,aW _ hr.pu]<;>rfl
   ·rw [<-hg,vr,uG (dv ly),<-Nat.gcd_rec,uG]
end
end
section
open Go (IntKind)
section
variable {P:aJ} {L:Lib}
def aBu (AJ:Has P L 290 Hw) {neg:Bool} {N:Nat} (hN:(au N).length<=180000000000):
  ∀k s,(∃(i m:Nat) (out:List Int),m=k/\out.length=i/\dg out/\dv out+1000000000^i*m=N/\(au m).length+9*i<=180000000000/\
    ((i=0/\bS [0,2,3,4] s=⟨[(0,.str (au m)),(2,.ptr 0 0),(3,.bool neg),(4,.aa)],[(0,.cells true true true 2 [.bool false,.aa])],1,0⟩)\/
    (0<i/\bS [0,2,3,4] s=⟨[(0,.str (au m)),(2,.ptr 0 0),(3,.bool neg),(4,.ay 1 0 i)],[(1,.cells true true false 1 (out.map ab)),(0,.cells true true true 2 [.bool false,.aa])],2,0⟩)))->
   ∃ex s',D P L (.loop [0,2,3,4] Ad) s=some (ex,s')/\∃tm i m out,ex= .exit 0/\m<1000000000/\out.length=i/\dg out/\dv out+1000000000^i*m=N/\i<20000000000/\ak tm 0= .str (au m)/\ak tm 2= .ptr 0 0/\ak tm 3= .bool neg/\
    ((i=0/\ak tm 4= .aa/\s'=⟨tm,[(0,.cells true true true 2 [.bool false,.aa])],1,0⟩)\/(0<i/\ak tm 4= .ay 1 0 i/\s'=⟨tm,[(1,.cells true true false 1 (out.map ab)),(0,.cells true true true 2 [.bool false,.aa])],2,0⟩)):=by
 refine cR (I:=fun k s=>∃(i m:Nat) (out:List Int),m=k/\out.length=i/\dg out/\dv out+1000000000^i*m=N/\(au m).length+9*i<=180000000000/\
    ((i=0/\s=⟨[(0,.str (au m)),(2,.ptr 0 0),(3,.bool neg),(4,.aa)],[(0,.cells true true true 2 [.bool false,.aa])],1,0⟩)\/
    (0<i/\s=⟨[(0,.str (au m)),(2,.ptr 0 0),(3,.bool neg),(4,.ay 1 0 i)],[(1,.cells true true false 1 (out.map ab)),(0,.cells true true true 2 [.bool false,.aa])],2,0⟩)))
  (Q:=fun ex s'=>∃tm i m out,ex= .exit 0/\m<1000000000/\out.length=i/\dg out/\dv out+1000000000^i*m=N/\i<20000000000/\ak tm 0= .str (au m)/\ak tm 2= .ptr 0 0/\ak tm 3= .bool neg/\
    ((i=0/\ak tm 4= .aa/\s'=⟨tm,[(0,.cells true true true 2 [.bool false,.aa])],1,0⟩)\/(0<i/\ak tm 4= .ay 1 0 i/\s'=⟨tm,[(1,.cells true true false 1 (out.map ab)),(0,.cells true true true 2 [.bool false,.aa])],2,0⟩))) ?_
 rintro k s ⟨i,m,out,rfl,hlen,hd,aM,hl,hs⟩;by_cases hm:1000000000<=m
 ·left
  obtain ⟨q,hq⟩:∃q,q=m/1000000000:=⟨_,rfl⟩;obtain ⟨r,hr⟩:∃r,r=m%1000000000:=⟨_,rfl⟩;have mc:=avc hm;rw [<-hq,<-hr] at mc;have kO:=Vh 9 r;have hqp:=sf q;have hlm:(au m).length=(au q).length+9:=by rw [mc,yU,kO]
  have c1:iw (au m) (some (au q).length) (some (au m).length)=some (.str (iK 9 r)):=by
   rw [lQ (by omega) (yA _),xW,mc,uN]
  have c2:iw (au m) (some 0) (some (au q).length)=some (.str (au q)):=by
   rw [lQ (by omega) (by omega),ye,mc,uM]
  have e1:=MB AJ (s:=iK 9 r) (v:=r) (by omega) (by rw [agx 9 r 0 (by omega)];simp)
  unfold ai at e1;have H9:dg (out++[(r:Int)]):=ie.2 ⟨hd,kZ.2 (by omega)⟩;have alS:dv (out++[(r:Int)])+1000000000^(i+1)*q=N:=by
   rw [nk,hlen,<-aM,xh];have e:=Nat.mod_add_div m 1000000000;rw [<-hr,<-hq] at e;rw [<-e];simp only [dv,xC,xG,yW,xz,xo];omega
  have Qb:((au m).length:Int)-9=((au q).length:Int):=by omega
  rcases hs with ⟨h0,rfl⟩ | ⟨h0,rfl⟩
  ·subst h0;have mR:out=[]:=yN hlen;subst mR
   simp only [go_sem,ya,yb,xT,yr,yi,yj,Ad,show (9:Int)<((au m).length:Int) by omega,Qb,wrapN (n:=(au q).length) (by omega),eR,eZ,dO,c1,c2,e1,nl];refine ⟨_,q,rfl,by omega,1,q,[]++[(r:Int)],rfl,rfl,H9,alS,by omega,.inr ⟨by omega,?_⟩⟩;rfl
  ·simp only [go_sem,ya,yb,yi,yj,Ad,show (9:Int)<((au m).length:Int) by omega,Qb,wrapN (n:=(au q).length) (by omega),eR,eZ,dO,c1,e1]
   rw [my (ex:=false) (pu:=true) (cs:=out.map ab) (by simp only [go_sem,ya]) (by rw [xq,hlen,yj]) (by omega) (by omega) (by decide) (by simp only [go_sem])]
   simp only [go_sem,ya,yb,eR,eZ,dO,Qb,wrapN (n:=(au q).length) (by omega),c2];refine ⟨_,q,rfl,by omega,i+1,q,out++[(r:Int)],rfl,by simp [hlen],H9,alS,by omega,.inr ⟨by omega,?_⟩⟩;rw [xR];simp only [go_sem,ya,yb,aH]<;>rfl
 ·right
  have h9:(au m).length<=9:=se (k:=8) (by omega);have hp0:=sf m;rcases hs with ⟨h0,rfl⟩ | ⟨h0,rfl⟩
  ·simp only [go_sem,Ad,show ¬(9:Int)<((au m).length:Int) by omega];exact ⟨_,_,rfl,by simp,_,i,m,out,rfl,by omega,hlen,hd,aM,by omega,by simp only [go_sem,ya],by simp only [go_sem,ya],by simp only [go_sem,ya],.inl ⟨h0,by simp only [go_sem,ya],rfl⟩⟩
  ·simp only [go_sem,Ad,show ¬(9:Int)<((au m).length:Int) by omega];exact ⟨_,_,rfl,by simp,_,i,m,out,rfl,by omega,hlen,hd,aM,by omega,by simp only [go_sem,ya],by simp only [go_sem,ya],by simp only [go_sem,ya],.inr ⟨h0,by simp only [go_sem,ya],rfl⟩⟩
end
end
section
open Go (IntKind)
section
variable {P:aJ} {L:Lib}
def anY (h:Rb P L) {n:Int} (hn:(au n.natAbs).length<=180000000000):∃r,ai P L 288 [.str (aV n)] r/\jq r n:=by
 obtain ⟨u,hu⟩:∃u,u=au n.natAbs:=⟨_,rfl⟩;obtain ⟨b,t,hb,kQ,hb2⟩:=F6 n.natAbs;have hs:aV n=(if n<0 then [45] else [])++u:=by rw [hu,oc]
 have Dn:0<u.length:=by rw [hu];exact sf _
 have rM:u[0]=b:=by
  have:u=b::t:=by rw [hu,hb]
  simp [this]
 have key:∀(s:St),bS [0,2,3,4] s=⟨[(0,.str u),(2,.ptr 0 0),(3,.bool (decide (n<0))),(4,.aa)],[(0,.cells true true true 2 [.bool false,.aa])],1,0⟩->
   ∃ex s',D P L (.loop [0,2,3,4] Ad) s=some (ex,s')/\∃tm i m out,ex= .exit 0/\m<1000000000/\out.length=i/\dg out/\dv out+1000000000^i*m=n.natAbs/\i<20000000000/\ak tm 0= .str (au m)/\ak tm 2= .ptr 0 0/\ak tm 3= .bool (decide (n<0))/\
    ((i=0/\ak tm 4= .aa/\s'=⟨tm,[(0,.cells true true true 2 [.bool false,.aa])],1,0⟩)\/(0<i/\ak tm 4= .ay 1 0 i/\s'=⟨tm,[(1,.cells true true false 1 (out.map ab)),(0,.cells true true true 2 [.bool false,.aa])],2,0⟩)):=fun s hc=>
  aBu (P:=P) (L:=L) h.AJ (neg:=decide (n<0)) hn n.natAbs s ⟨0,n.natAbs,[],rfl,rfl,rfl,by simp [dv],by omega,.inl ⟨rfl,by rw [hc,hu]⟩⟩
 have fin:∀(i m:Nat) (out:List Int),m<1000000000->out.length=i->dg out->dv out+1000000000^i*m=n.natAbs->i<20000000000->∃w l,bZ P L (D P L) 294 [.bool (decide (n<0)),.ap false (i+1) ((out++[(m:Int)]).map ab)]=some (.agg [.bool (decide (n<0)),w])/\bB w l/\dg l/\nz l/\dv l=n.natAbs:=fun i m out h1 h2 h3 h4 h5=>by
  have hv:=gG false (out++[(m:Int)]);have hd:dg (out++[(m:Int)]):=ie.2 ⟨h3,kZ.2 (by omega)⟩;have aM:dv (out++[(m:Int)])=n.natAbs:=by rw [nk,h2];simp [dv];exact h4
  obtain ⟨r,e,hr⟩:=rG h.iL h.cZ (decide (n<0)) hv hd (by simp;omega);have IN:cD (decide (n<0)) (dv (out++[(m:Int)]))=n:=by
   rw [aM];unfold cD;by_cases h0:n<0
   ·simp only [h0,ym,xm];omega
   ·simp only [h0,yk,yE,y9];omega
  rw [IN] at hr;obtain ⟨w,l,rfl,hw,hZ,jV,dM⟩:=hr;simp only [yU,List.length_singleton,h2] at e;exact ⟨w,l,e,hw,hZ,jV,dM⟩
 unfold ai;rw [hs];by_cases h0:n<0
 ·rw [yz h0,ax h.anS];have lJ:iw (45::u) (some 1) (some (u.length+1))=some (.str u):=by rw [lQ (s:=45::u) (l:=1) (h:=u.length+1) (by omega) (by simp)];simp
  simp only [h0,ym] at key fin ⊢;simp only [go_sem,ya,yb,QC,az,show (0:Int)<((u.length+1:Nat):Int) by omega,xk,xZ,EX,ym,eR,eZ,dO,lJ];generalize hq:D P L (.loop [0,2,3,4] Ad) _=q;obtain ⟨ex,s,rfl,tm,i,m,out,rfl,hm,hlen,hd,aM,hi,t0,t2,t3,LI⟩:=cG hq key (by simp only [go_sem,ya,yb,aH]<;>rfl)
  have e1:=MB h.AJ (s:=au m) (v:=m) (by have:=se (k:=8) (n:=m) (by omega);omega) (zJ m);have fy:i<20000000000:=hi;obtain ⟨w,l,e2,hw,hZ,jV,dM⟩:=fin i m out hm hlen hd aM fy;refine ⟨_,?_,w,l,rfl,hw,hZ,jV,dM⟩;unfold ai at e1;rcases LI with ⟨zB,t4,rfl⟩ | ⟨zB,t4,rfl⟩
  ·subst zB;have mR:out=[]:=yN hlen;subst mR;have jo:∀hp:Hp,jR 0 1 (some (false,1,[AV.int .i64 (m:Int)],hp))=some (.ap false 1 [AV.int .i64 (m:Int)],hp):=fun hp=>rfl
   simp only [xZ,xi,wH,yd] at e2;simp only [go_sem,ya,yb,xT,yr,yi,yj,aH,t0,t2,t3,t4,e1,nl,jo,e2,bq,hw.pu,hw.one,bP];rcases hw with ⟨rfl,_⟩ | ⟨e,rfl⟩<;>simp only [h0,ym]<;>rfl
  ·simp only [go_sem,ya,yb,yi,yj,aH,t0,t2,t3,t4,e1]
   rw [my (ex:=false) (pu:=true) (cs:=out.map ab) (by simp only [go_sem,ya]) (by rw [xq,hlen,yj]) (by omega) (by omega) (by decide) (by simp only [go_sem])];have jo:∀hp:Hp,jR 0 (i+1) (some (false,1,out.map ab++[AV.int .i64 (m:Int)],hp))=some (.ap false (i+1) (out.map ab++[AV.int .i64 (m:Int)]),hp):=fun hp=>q8 false (by simp [hlen]) (by decide)
   simp only [xR,xi,wH] at e2;simp only [go_sem,ya,yb,jo,e2,bq,hw.pu,hw.one,bP,tM];rcases hw with ⟨rfl,_⟩ | ⟨e,rfl⟩<;>simp only [h0,ym]<;>rfl
 ·rw [yp h0,ax h.anS,xZ];simp only [h0,yk] at key fin ⊢;simp only [go_sem,ya,yb,QC,az,show (0:Int)<(u.length:Int) by omega,re Dn,rM,show ¬((b:Nat):Int)=45 by omega];generalize hq:D P L (.loop [0,2,3,4] Ad) _=q;obtain ⟨ex,s,rfl,tm,i,m,out,rfl,hm,hlen,hd,aM,hi,t0,t2,t3,LI⟩:=cG hq key (by simp only [go_sem,ya,yb,aH]<;>rfl)
  have e1:=MB h.AJ (s:=au m) (v:=m) (by have:=se (k:=8) (n:=m) (by omega);omega) (zJ m);have fy:i<20000000000:=hi;obtain ⟨w,l,e2,hw,hZ,jV,dM⟩:=fin i m out hm hlen hd aM fy;refine ⟨_,?_,w,l,rfl,hw,hZ,jV,dM⟩;rcases LI with ⟨zB,t4,rfl⟩ | ⟨zB,t4,rfl⟩
  ·subst zB;have mR:out=[]:=yN hlen;subst mR;have jo:∀hp:Hp,jR 0 1 (some (false,1,[AV.int .i64 (m:Int)],hp))=some (.ap false 1 [AV.int .i64 (m:Int)],hp):=fun hp=>rfl
   simp only [xZ,xi,wH,yd] at e2;simp only [go_sem,ya,yb,xT,yr,yi,yj,aH,t0,t2,t3,t4,e1,nl,jo,e2,bq,hw.pu,hw.one,bP];rcases hw with ⟨rfl,_⟩ | ⟨e,rfl⟩<;>simp only [h0,yk]<;>rfl
  ·simp only [go_sem,ya,yb,yi,yj,aH,t0,t2,t3,t4,e1]
   rw [my (ex:=false) (pu:=true) (cs:=out.map ab) (by simp only [go_sem,ya]) (by rw [xq,hlen,yj]) (by omega) (by omega) (by decide) (by simp only [go_sem])];have jo:∀hp:Hp,jR 0 (i+1) (some (false,1,out.map ab++[AV.int .i64 (m:Int)],hp))=some (.ap false (i+1) (out.map ab++[AV.int .i64 (m:Int)]),hp):=fun hp=>q8 false (by simp [hlen]) (by decide)
   simp only [xR,xi,wH] at e2;simp only [go_sem,ya,yb,jo,e2,bq,hw.pu,hw.one,bP,tM];rcases hw with ⟨rfl,_⟩ | ⟨e,rfl⟩<;>simp only [h0,yk]<;>rfl
end
end
section
open Go (IntKind)
def DK (n:Int) (r:List Nat):bX (aV n++r)=(aV n).length+bX r:=by
 rw [<-oc]
 split
 ·simp only [xk,xZ,bX,yx];rw [yp (by decide),JY r (zI _)];omega
 ·rw [xZ];exact JY r (zI _)
def Ge:∀{a b:List Nat},bQ a b=true->a=b
 | [],[],_=>rfl
 | [],_::_,h=>by simp [bQ] at h
 | _::_,[],h=>by simp [bQ] at h
 | x::a,y::b,h=>by
  simp only [bQ,Bool.and_eq_true] at h;rw [Nat.eq_of_beq_eq_true h.1,Ge h.2]
def alT {n:Int} {d:Nat} (h:n≠0):bQ (TT n d) [48]=false:=by
 cases hb:bQ (TT n d) [48] with
 | false=>rfl
 | true=>
  have e:=Ge hb;unfold TT at e;by_cases h0:n<0
  ·rw [jZ h0] at e;simp at e
  ·obtain ⟨m,rfl⟩:∃m:Nat,n=m:=⟨n.toNat,by omega⟩;rw [jY] at e;obtain ⟨b,r,da,_,_⟩:=F6 m;rw [da] at e;simp only [xk,vU,List.append_eq_nil_iff] at e;have hv:=zJ m;rw [da,e.1,e.2.1] at hv
   have:(some 0:Option Nat)=some m:=hv
   grind
section
variable {P:aJ} {L:Lib}
def aBv (h:Rb P L):∃r,ai P L 281 [ab 1] r/\jq r 1:=by
 obtain ⟨r,e,hr⟩:=rG h.iL h.cZ false (gG false [(1:Int)]) (by decide) (by decide);obtain ⟨w,l,rfl,hw,hd,hz,hv⟩:=hr;refine ⟨_,?_,w,l,rfl,hw,hd,hz,hv⟩;simp only [xi,wH,yx,yJ,yd] at e;have jo:∀hp:Hp,jR 0 1 (some (false,1,[AV.int .i64 1],hp))=some (.ap false 1 [AV.int .i64 1],hp):=fun hp=>rfl
 unfold ai at e ⊢;rw [ax h.aEK];simp only [go_sem,ya,yb,xT,yr,yi,yj,W8,az,Int.reduceLT,yk,Lg,aH,aj8,Int.reduceEq,Bool.not_false,Bool.not_true,ym,gF _ _ _ (show (1000000000:Int)≠0 by decide),fq _ _ _ (show (1000000000:Int)≠0 by decide),show Int.tmod 1 1000000000=1 from rfl,show Int.tdiv 1 1000000000=0 from rfl,show IntKind.wrap .i64 0=0 from rfl,nl,jo,e,hw.pu,hw.one,bq,bP];rcases hw with ⟨rfl,_⟩ | ⟨e,rfl⟩<;>rfl
def anZ (h:Rb P L) {n:Int} {d:Nat} (hn:(au n.natAbs).length<=144000000000) (hd:(au d).length<=144000000000):
  ∃x y,ai P L 274 [.str (TT n d)] (.af [x,y])/\jq x n/\jq y d:=by
 obtain ⟨x,e1,hx⟩:=anY h (n:=n) (by omega);have hli:(aV n).length<=(au n.natAbs).length+1:=by rw [<-oc];split<;>simp
 by_cases h1:d=1
 ·subst h1;obtain ⟨y,e2,hy⟩:=aBv h;have hT:TT n 1=aV n:=by unfold TT;simp
  have hs:=DK n [];rw [wG] at hs;have e3:=EW h.AI (s:=aV n) (by omega);rw [hs] at e3;refine ⟨x,y,?_,hx,hy⟩;obtain ⟨xw,xl,rfl,dX,_,_,_⟩:=hx;obtain ⟨yw,yl,rfl,dY,_,_,_⟩:=hy;rw [hT];unfold ai at e1 e2 e3 ⊢;rw [ax h.anQ];simp only [go_sem,ya,yb,Qy,az,e3,bX,yW,ym,e1,e2,bq,dX.pu,dX.one,dY.pu,dY.one,bP];rcases dX with ⟨rfl,_⟩ | ⟨e,rfl⟩<;>rcases dY with ⟨rfl,_⟩ | ⟨e',rfl⟩<;>rfl
 ·obtain ⟨y,e2,hy⟩:=anY h (n:=(d:Int)) (by simp;omega);rw [jY] at e2;obtain ⟨s,NN⟩:∃s,s=TT n d:=⟨_,rfl⟩;have hT:s=aV n++47::au d:=by rw [NN];unfold TT;rw [yp h1]
  have hs:bX s=(aV n).length:=by rw [hT,DK];rfl
  have hlen:s.length=(aV n).length+(au d).length+1:=by rw [hT];simp;omega
  have e3:=EW h.AI (s:=s) (by omega);rw [hs] at e3;have c1:iw s (some 0) (some (aV n).length)=some (.str (aV n)):=by
   rw [lQ (by omega) (by omega),ye,hT,uM]
  have c2:iw s (some ((aV n).length+1)) (some s.length)=some (.str (au d)):=by
   rw [lQ (by omega) (yA _),xW,hT,show aV n++47::au d=(aV n++[47])++au d by simp,show (aV n).length+1=(aV n++[47]).length by simp,uN]
  refine ⟨x,y,?_,hx,hy⟩;obtain ⟨xw,xl,rfl,dX,_,_,_⟩:=hx;obtain ⟨yw,yl,rfl,dY,_,_,_⟩:=hy;rw [<-NN];unfold ai at e1 e2 e3 ⊢;rw [ax h.anQ]
  simp only [go_sem,ya,yb,Qy,az,e3,show ¬((aV n).length:Int)=(s.length:Int) by omega,eR,eZ,dO,c1,wrapN (n:=(aV n).length+1) (by omega),show ((aV n).length:Int)+1=(((aV n).length+1:Nat):Int) from rfl,c2,e1,e2,bq,dX.pu,dX.one,dY.pu,dY.one,bP];rcases dX with ⟨rfl,_⟩ | ⟨e,rfl⟩<;>rcases dY with ⟨rfl,_⟩ | ⟨e',rfl⟩<;>rfl
end
end
section
open Go (IntKind)
def PE {n:Int} {d:Nat} (h:n<0):TT n d=45::TT (-n) d:=by
 have e:aV (-n)=au n.natAbs:=by
  rw [<-oc,yp (show ¬-n<0 by omega),xZ,show (-n).natAbs=n.natAbs by omega]
 unfold TT;rw [jZ h,e];rfl
def axJ {n:Int} {d:Nat} (h:¬n<0):∃b u,TT n d=b::u/\48<=b:=by
 obtain ⟨b,r,hb,h1,_⟩:=F6 n.natAbs;refine ⟨b,r++(if d=1 then [] else 47::au d),?_,h1⟩;unfold TT;rw [<-oc,yp h,xZ,hb];rfl
def cp (a b:AV) (r:List AV):hX 2 true (a::b::r)=some (.agg [a,b]):=rfl
def axK (k:Nat):2^k<=1000000000^k:=Nat.pow_le_pow_left (by decide) k
def Bd.r {k:Nat} {z:Int} (h:Bd k z):z.natAbs<1000000000^k:=yO h (axK k)
def LJ (r:Rat):RT r=TT r.num r.den:=rfl
def ajS {n d:Int} (hd:0<d):RT (xF n d)=pZ n d:=by
 obtain ⟨h1,h2⟩:=N7 (a:=n) hd;rw [axn hd,LJ,h1]
 congr 1
 exact uY (show ((xF n d).den:Int)=((dL n d).toNat:Int) by rw [h2];have:=Kq (a:=n) hd;unfold dL at this ⊢;omega)
structure Rm (P:aJ) (L:Lib):Prop extends Rb P L where
 aES:Has P L 263 dH
 abP:Has P L 273 EJ
 aET:Has P L 284 W9
 an0:Has P L 285 Hv
 aEU:Has P L 286 QB
 MT:Has P L 287 L5
 rJ:Has P L 301 Ay
structure Rl (P:aJ) (L:Lib):Prop extends Rm P L where
 Sm:Has P L 269 Ht
structure Rp (P:aJ) (L:Lib):Prop extends Ras P L,Rm P L
structure Rn (P:aJ) (L:Lib):Prop extends Ra P L,Rp P L
structure Rx (P:aJ) (L:Lib):Prop extends Rn P L,Rl P L where
 AP:Has P L 266 Hs
 mS:Has P L 283 Aw
section
variable {P:aJ} {L:Lib}
def WE (h:Rm P L) {v w:AV} {a b:List Int} (hv:bB v a) (hw:bB w b) (ha:dg a) (hb:dg b) (na:nz a) (nb:nz b) (la:a.length<=8000000000) (lb:b.length<=8000000000) (h0:0<dv b):
  ∃q r lq lr,ai P L 289 [v,w] (.af [q,r])/\bB q lq/\bB r lr/\dg lq/\nz lq/\dg lr/\nz lr/\dv lq=dv a/dv b/\dv lr=dv a%dv b:=
 alQ h.MR h.lC h.oN h.p9 h.cZ h.rJ hv hw ha hb na nb la lb h0
def aBw (h:Rm P L) {x y:AV} {a b:List Int} {n d:Int} {K:Nat} (hK:K<=8000000000) (hx:bB x a) (ha:dg a) (na:nz a) (va:dv a=n.natAbs) (hy:bB y b) (hb:dg b) (nb:nz b) (vb:dv b=d.natAbs) (kn:Bd K n) (kd:Bd K d) (hd:0<d) {tm:Env} (t2:ak tm 2= .ptr 0 0) (t3:ak tm 3= .ptr 1 0):
  fV [.t 4] (D P L (aD (aD oC.body)) ⟨tm,[(1,.cells true true true 2 [.bool (decide (d<0)),y]),(0,.cells true true true 2 [.bool (decide (n<0)),x])],2,0⟩)=some (.str (RT (xF n d))):=by
 rw [ajS hd];have la:=yS (ik ha na (by rw [va];exact kn.r)) hK
 have lb:=yS (ik hb nb (by rw [vb];exact kd.r)) hK
 obtain ⟨g,lg,e1,hg,dg',ng,vg⟩:=alR h.anR h.MR h.lC h.oN h.p9 h.cZ h.rJ hx hy ha hb na nb la lb;rw [va,vb,show wu n.natAbs d.natAbs=wq n d from rfl] at vg;have Nn:=Pa (a:=n) hd;have aEV:wq n d<=d.natAbs:=Int.gcd_le_natAbs_right n (by omega);have lg1:lg.length<=8000000000:=yS (ik dg' ng (by rw [vg];exact Nat.lt_of_le_of_lt aEV kd.r)) hK
 obtain ⟨p,p',lp,lp',e2,hp,aw,dp,np,dp',np',vp,vp'⟩:=WE h hx hg ha dg' na ng la lg1 (by omega);obtain ⟨q,q',lq,lq',e3,hq,cm,dq,nq,dq',nq',vq,vq'⟩:=WE h hy hg hb dg' nb ng lb lg1 (by omega);rw [va,vg] at vp;rw [vb,vg] at vq;have hrn:(dJ n d).natAbs=n.natAbs/wq n d:=by unfold dJ;rw [vT (Int.gcd_dvd_left n d)];rfl
 have mV:(dL n d).natAbs=d.natAbs/wq n d:=by unfold dL;rw [vT (Int.gcd_dvd_right n d)];rfl
 have hdp:=Kq (a:=n) hd;rw [<-hrn] at vp;rw [<-mV] at vq;have aKY:=aAO n d;have IN:cD (decide (n<0)) (dv lp)=dJ n d:=by
  rw [vp];unfold cD;by_cases h0:n<0
  ·have:¬0<=dJ n d:=fun h1=>by have:=tD (uf Nn) h1;omega
   simp only [h0,ym,xm];omega
  ·have:¬dJ n d<0:=fun h1=>by have:=Int.mul_neg_of_pos_of_neg Nn h1;omega
   simp only [h0,yk,yE,y9];omega
 have kn':Bd K (dJ n d):=kn.le (agv n d);have jG:Bd K (dL n d):=kd.le (agw n d);have lp1:lp.length<=8000000000:=yS (ik dp np (by rw [vp];exact kn'.r)) hK
 have NO:lq.length<=8000000000:=yS (ik dq nq (by rw [vq];exact jG.r)) hK
 obtain ⟨s,e4,hs⟩:=rG h.iL h.cZ (decide (n<0)) hp dp (by omega);rw [IN] at hs;obtain ⟨e5,l5⟩:=abN (K:=K) h.abO h.p6 (by omega) hs kn'.r;obtain ⟨u,e6,hu⟩:=rG h.iL h.cZ false hq dq (by omega);have Bn:cD false (dv lq)=dL n d:=by rw [vq];unfold cD;simp only [yE,y9];omega
 rw [Bn] at hu;obtain ⟨e7,l7⟩:=abN (K:=K) h.abO h.p6 (by omega) hu jG.r;obtain ⟨sw,sl,rfl,gE,_,_,_⟩:=hs;obtain ⟨uw,ul,rfl,huw,_,_,_⟩:=hu;have aKJ:0<lq.length:=by
  rcases xj lq.length with e | e
  ·rw [yN e] at vq;simp [dv] at vq;omega
  ·exact e
 by_cases Tv:lq.length=1
 ·obtain ⟨z,rfl⟩:∃z,lq=[z]:=by
   cases lq with
   | nil=>simp at Tv
   | cons z r=>cases r with
    | nil=>exact ⟨z,rfl⟩
    | cons y r=>simp at Tv
  have NW:z=dL n d:=by simp [dv] at vq;omega
  have e8:=hq.bz (i:=0) (by simp);simp only [wF] at e8;by_cases h1:dL n d=1
  ·have hT:pZ n d=aV (dJ n d):=by unfold pZ;rw [yz h1]
   rw [hT];simp only [go_sem,ya,oC,aD,t2,t3,hx.ao,hy.ao,aP,yd,bj,show ¬d<0 by omega,yk,e1,hg.ao,hg.shut,e2,hp.ao,hp.b6,aw.b6,e3,hq.len,hq.b6,cm.b6,e4,gE.ao,aU,bq,e5,yx,yJ,show ((1:Nat):Int)=(1:Int) from rfl,ym,e8,NW,h1]
  ·have hT:pZ n d=(aV (dJ n d)++[47])++aV (dL n d):=by unfold pZ;rw [yp h1]
   rw [hT]
   simp only [go_sem,ya,oC,aD,t2,t3,hx.ao,hy.ao,aP,yd,bj,show ¬d<0 by omega,yk,e1,hg.ao,hg.shut,e2,hp.ao,hp.b6,aw.b6,e3,hq.len,hq.ao,hq.b6,cm.b6,e4,gE.ao,aU,bq,e5,yx,yJ,show ((1:Nat):Int)=(1:Int) from rfl,ym,e8,NW,h1,gH (a:=aV (dJ n d)) (b:=[47]) (by simp;omega),e6,huw.ao,e7,gH (a:=aV (dJ n d)++[47]) (b:=aV (dL n d)) (by simp;omega)]
 ·have h1:¬dL n d=1:=fun h1=>Tv (by
   have h2:lq.length<=1:=ajR dq nq (by rw [vq,h1];decide)
   omega)
  have hT:pZ n d=(aV (dJ n d)++[47])++aV (dL n d):=by unfold pZ;rw [yp h1]
  rw [hT]
  simp only [go_sem,ya,oC,aD,t2,t3,hx.ao,hy.ao,aP,yd,bj,show ¬d<0 by omega,yk,e1,hg.ao,hg.shut,e2,hp.ao,hp.b6,aw.b6,e3,hq.len,hq.ao,hq.b6,cm.b6,e4,gE.ao,aU,bq,e5,show ¬(lq.length:Int)=1 by omega,gH (a:=aV (dJ n d)) (b:=[47]) (by simp;omega),e6,huw.ao,e7,gH (a:=aV (dJ n d)++[47]) (b:=aV (dL n d)) (by simp;omega)]
def aqT (n d:Int):xF (-n) (-d)=xF n d:=by rw [Rat.divInt_neg',ybG]
def WG (h:Rm P L) {v w:AV} {n d:Int} {K:Nat} (hK:K<=8000000000) (hv:jq v n) (hw:jq w d) (kn:Bd K n) (kd:Bd K d) (hd:d≠0):ai P L 280 [v,w] (.str (RT (xF n d))):=by
 have fin:∀{x y:AV} {a b:List Int} {n' d':Int},bB x a->dg a->nz a->dv a=n'.natAbs->bB y b->dg b->nz b->dv b=d'.natAbs->Bd K n'->Bd K d'->0<d'->xF n' d'=xF n d->∀tm,ak tm 2= .ptr 0 0->ak tm 3= .ptr 1 0->
   D P L (.seq (bC oC.body) (bC (aD oC.body))) ⟨[(0,v),(1,w)],[],0,0⟩=some (.normal,⟨tm,[(1,.cells true true true 2 [.bool (decide (d'<0)),y]),(0,.cells true true true 2 [.bool (decide (n'<0)),x])],2,0⟩)->ai P L 280 [v,w] (.str (RT (xF n d))):=fun {x y a b n' d'} hx ha na va hy hb nb vb kn kd hd hq tm t2 t3 e=>by
  unfold ai;rw [ax h.aEJ];show fV [.t 4] (D P L (.seq (bC oC.body) (.seq (bC (aD oC.body)) (aD (aD oC.body)))) ⟨[(0,v),(1,w)],[],0,0⟩)=_
  rw [DS,e,fY,<-hq];exact aBw h hK hx ha na va hy hb nb vb kn kd hd t2 t3
 have eK:=hv;have hw':=hw;obtain ⟨x,a,rfl,hx,ha,na,va⟩:=hv;obtain ⟨y,b,rfl,hy,hb,nb,vb⟩:=hw;by_cases h0:d<0
 ·obtain ⟨r,e1,hr⟩:=anr (K:=K) h.anT h.iL h.cZ (by omega) eK kn.r;obtain ⟨s,e2,hs⟩:=anr (K:=K) h.anT h.iL h.cZ (by omega) hw' kd.r;obtain ⟨x',a',rfl,zD,Fp,na',va'⟩:=hr;obtain ⟨y',b',rfl,NR,da,nb',vb'⟩:=hs;simp only [h0,ym] at e2
  refine fin zD Fp na' va' NR da nb' vb' kn.neg kd.neg (by omega) (aqT n d) _ ?_ ?_ (by
   simp only [go_sem,ya,yb,oC,bC,aD,az,hx.pu,hx.ao,hx.one,hy.pu,hy.ao,hy.one,zD.pu,zD.one,NR.pu,NR.one,aP,yd,h0,ym,cp,aU,e1,e2,bq,bP]<;>rfl)<;>simp only [go_sem,ya]
 ·refine fin hx ha na va hy hb nb vb kn kd (by omega) rfl _ ?_ ?_ (by simp only [go_sem,ya,yb,oC,bC,aD,az,hx.pu,hx.one,hy.pu,hy.one,aP,yd,h0,yk]<;>rfl)<;>simp only [go_sem,ya]
end
end
section
open Go (IntKind)
section
variable {P:aJ} {L:Lib}
def Wc (n:Int):RT (n:Rat)=aV n:=by unfold RT;simp
def pK {K:Nat} {a:Rat} (h:Hq K a):(RT a).length<=2*K+3:=by
 have h1:=Ki h.1;have h2:=Ki h.2;rw [jY] at h2;unfold RT
 grind
def Pj {K:Nat} {z:Int} (h:Bd K z):(au z.natAbs).length<=K+1:=by
 have:=Ki (z:=(z.natAbs:Int)) (k:=K) (by unfold Bd at h ⊢;omega)
 rwa [jY] at this
def G1 (h:Rm P L) {a:Rat} {K:Nat} (ka:Hq K a) (hK:K<=8000000000):∃x y,ai P L 274 [.str (RT a)] (.af [x,y])/\jq x a.num/\jq y (a.den:Int):=by
 have h1:=Pj ka.1;have h2:=Pj ka.2
 exact anZ h.toRb (n:=a.num) (d:=a.den) (by omega) (by simpa using (by omega:(au ((a.den:Int)).natAbs).length<=144000000000))
def alU (h:Rm P L) {n:Int} {d:Nat} (hl:(TT n d).length<=100000000000) (h00:n=0->d=1):ai P L 262 [.str (TT n d)] (ab (bG n)):=by
 unfold ai;rw [ax h.aEH];by_cases h0:n<0
 ·have fQ:=alT (n:=n) (d:=d) (by omega);rw [PE h0] at fQ ⊢;simp only [go_sem,ya,LX,iZ,fQ,show (0:Int)<(((TT (-n) d).length+1:Nat):Int) by omega,EX,ym];unfold bG;rw [yz h0]
 ·by_cases h1:n=0
  ·subst h1
   have:=h00 rfl
   subst this;rw [show TT 0 1=[48] by decide];simp only [go_sem,ya,LX,iZ,show bQ [48] [48]=true from rfl];rfl
  ·have fQ:=alT (n:=n) (d:=d) h1;obtain ⟨b,u,hb,kQ⟩:=axJ (d:=d) h0;rw [hb] at fQ ⊢;simp only [go_sem,ya,LX,iZ,fQ,show (0:Int)<((u.length+1:Nat):Int) by omega,show nC 0 (.str (b::u))=some (.int .u8 (b:Nat)) from rfl,show ¬((b:Nat):Int)=45 by omega];unfold bG;rw [yp h0,yp h1]
def aqn {a:Rat} (h:a.num=0):a.den=1:=by simp_all
def Cv (h:Rm P L) {a:Rat} {K:Nat} (ka:Hq K a) (hK:K<=8000000000):ai P L 262 [.str (RT a)] (ab (bG a.num)):=
 alU h (by have:=pK ka;rw [LJ] at this;omega) aqn
def alV (h:Rp P L) {a:Rat} {K:Nat} (ka:Hq K a) (hK:K<=8000000000):ai P L 268 [.str (RT a)] (.str (RT (-a))):=by
 have e:=Cv h.toRm ka hK;have hl:=pK ka;have en:(-a).num= -a.num:=rfl;have ed:(-a).den=a.den:=rfl;rw [LJ] at hl e ⊢;rw [LJ,en,ed];generalize a.num=n at*
 generalize a.den=d at*
 unfold ai at e ⊢;rw [ax h.aEL];by_cases h0:n<0
 ·have es:bG n= -1:=by unfold bG;rw [yz h0]
  rw [es,PE h0] at e;rw [PE h0] at hl ⊢;have hc:iw (45::TT (-n) d) (some 1) (some ((TT (-n) d).length+1))=some (.str (TT (-n) d)):=by rw [lQ (s:=45::TT (-n) d) (l:=1) (h:=(TT (-n) d).length+1) (by omega) (by simp)];simp
  simp only [go_sem,ya,L2,e,show (-1:Int)<0 by decide,eR,eZ,dO,hc]
 ·by_cases h1:n=0
  ·subst h1;have es:bG 0=0:=rfl;rw [es] at e;simp only [go_sem,ya,L2,e,show ¬(0:Int)<0 by decide,ym,Int.neg_zero]
  ·have es:bG n=1:=by unfold bG;rw [yp h0,yp h1]
   rw [es] at e
   have:TT (-n) d=45::TT n d:=by rw [PE (by omega),ybG]
   rw [this]
   simp only [go_sem,ya,L2,e,show ¬(1:Int)<0 by decide,show ¬(1:Int)=0 by decide,gH (a:=[45]) (b:=TT n d) (by simp;omega),xk,xZ]
end
end
end VE
