import Derived.Test.YtfohkkaphnfgoaaGreatDoorTaq
import Derived.Test.YtfohkkaphnfgoaaGreatDoorTam
import Derived.Test.YtfohkkaphnfgoaaGreatDoorTan
set_option linter.all false
set_option maxRecDepth 100000
open Bool renaming and_true→uj,false_eq_true→yF,not_false→yI,not_true→yJ
open Int renaming le_of_lt→uK,mul_add→ybF,mul_le_mul_of_nonneg_left→vJ,mul_nonneg→uz,natCast_add→yaB,natCast_mul→xL,natCast_nonneg→ta,neg_neg→ybm,ofNat_eq_natCast→tT,ofNat_lt→ub,pow_pos→ybG,pow_succ→uJ,tdiv_eq_ediv_of_nonneg→xZ,tmod_eq_emod_of_nonneg→xE,toNat_natCast→xp
open Int.ofNat renaming inj→tX
open List renaming append_assoc→xF,append_nil→wJ,cons_append→xu,drop_drop→vG,drop_eq_getElem_cons→yN,drop_eq_nil_of_le→yT,drop_left→yaA,drop_zero→yg,eq_nil_of_length_eq_zero→yD,getD_eq_getElem?_getD→xK,getElem?_eq_getElem→wo,length_append→yW,length_cons→yC,length_drop→wi,length_map→yL,length_nil→yK,length_pos_iff→uO,length_take→yQ,map_append→xq,map_cons→yV,map_nil→wz,nil_append→xM,replicate→yG,set_eq_of_length_le→tk,take_append_drop→xW,take_left→yaz,take_length→xQ,take_of_length_le→yp,take_set→tp
open Nat renaming add_comm→yav,add_mul→xH,add_zero→y7,div_add_mod→xV,div_eq_of_lt→wC,div_lt_iff_lt_mul→xU,eq_zero_or_pos→xt,gcd→wD,gcd_comm→uC,le_of_lt_succ→tg,le_refl→yr,le_trans→xn,lt_of_lt_of_le→yP,min_eq_left→xX,mod_eq_of_lt→yS,mod_lt→xz,mul_add→xA,mul_assoc→xr,mul_comm→xC,mul_le_mul→xB,mul_le_mul_left→yU,mul_le_mul_right→yX,mul_lt_mul''→tB,mul_lt_mul_of_pos_right→wM,mul_one→yh,mul_pos→ybi,mul_zero→xI,pow_add→wB,pow_le_pow_right→xD,pow_lt_pow_iff_right→tr,pow_succ→xk,reduceAdd→yb,reduceEqDiff→ya,reduceLT→yt,reduceLeDiff→yi,reduceMul→xj,zero_add→yd
namespace VE
section
open Go (IntKind)
def RJ (n:Nat):(yG n [AV.int .i64 0]).flatten=(yG n (0:Int)).map aa:=by simp_all
def apW (b:Bool):KA true (some b)=some (.bool (!b)):=by cases b<;>rfl
def Zf (n m:Nat):(yG n (0:Int)).getD m 0=0:=by grind
section
variable {P:aG} {L:Lib}
def asG {v w:AV} {a b:List Int} (hv:bl v a) (hw:bl w b) (ha:dg a) (hb:dg b) (la:a.length<=20000000000) (lb:b.length<=20000000000) {n:Nat} (hn:n=a.length+b.length):
  ∀k s,(∃(i:Nat) (out:List Int),aT [0,1,5,6] s=⟨[(0,v),(1,w),(5,.aC 0 0 n),(6,aa i)],[(0,.cells true true true 1 (out.map aa))],1,0⟩/\i+k=a.length/\out.length=n/\dg out/\dv out=dv (a.take i)*dv b/\(∀m,i+b.length<=m->out.getD m 0=0))->
   ∃ex s',D P L (.loop [0,1,5,6] Ju) s=some (ex,s')/\∃tm out,s'=⟨tm,[(0,.cells true true true 1 (out.map aa))],1,0⟩/\ex= .exit 0/\ah tm 5= .aC 0 0 n/\out.length=n/\dg out/\dv out=dv a*dv b:=by
 intro dq sq;generalize bw:aT [0,1,5,6] sq=s0;revert bw s0 sq dq;apply dn;rintro k s ⟨i,out,rfl,hk,hlen,hd,aR,gL⟩;by_cases hi:i<a.length
 ·left
  simp only [go_sem,ya,Ju,hv.len,show (i:Int)<a.length by omega];generalize hq:D P L (.loop [0,1,5,6,7,8] Jt) _=q;obtain ⟨ex,s,rfl,tm,c,sK,rfl,rfl,t0,t1,t5,t6,t7,Ue,kK,hc,Uf,KD⟩:=bD hq (asF (P:=P) (L:=L) hv hw ha hb la lb hn hi (out0:=out) b.length) ⟨0,0,out,by simp only [go_sem,ya,yb,an,ak hv.pu,ao _ hv.pu,ak hw.pu,ao _ hw.pu]<;>rfl,by omega,hlen,hd,by omega,by simp [dv],fun m _=>rfl⟩
  have hz:sK.getD (i+b.length) 0=0:=by rw [KD _ (yr _),gL _ (yr _)]
  have e3:=sC (l:=sK) (o:=i+b.length) (by omega);rw [hz] at e3;have bg:=To (l:=sK) (j:=i+b.length) (x:=c) (by omega);rw [hz,wB] at bg
  simp only [go_sem,ya,yh,an,t0,t1,t5,t6,t7,hw.len,ak hv.pu,ao _ hv.pu,ak hw.pu,ao _ hw.pu,wrapN (n:=i+b.length) (by omega),show (i:Int)+(b.length:Int)=((i+b.length:Nat):Int) from rfl,cW 0 0 (show i+b.length<n by omega),yd,e3,Int.zero_add,wrap64 (n:=c) (by omega) (by omega),Cs (l:=sK) (o:=i+b.length) (by omega)];refine ⟨_,k-1,rfl,by omega,i+1,sK.set (i+b.length) c,?_,by omega,by simp [Ue],NU kK hc,?_,fun m hm=>?_⟩
  ·rw [wrap64 (by omega) (by omega)];simp only [go_sem,ya,yb,an,ak hv.pu,ao _ hv.pu,ak hw.pu,ao _ hw.pu]<;>rfl
  ·rw [pn,xH,<-aR,xr];simp only [Int.toNat_zero,xI,y7] at bg;rw [bg];exact Uf
  ·rw [aaz (by omega),KD m (by omega),gL m (by omega)]
 ·right
  have:i=a.length:=by omega
  subst this;rw [xQ] at aR;simp only [go_sem,ya,Ju,hv.len,show ¬(a.length:Int)<a.length by omega];exact ⟨_,_,rfl,by simp,_,out,rfl,rfl,by simp only [go_sem,ya],hlen,hd,aR⟩
def VB (h:Has P L 293 BG) (cJ:Has P L 300 lS) {v w:AV} {a b:List Int} (hv:bl v a) (hw:bl w b) (ha:dg a) (hb:dg b) (la:a.length<=8000000000) (lb:b.length<=8000000000):
  ∃r out,ae P L 293 [v,w] r/\bl r out/\shut r=r/\dg out/\nz out/\dv out=dv a*dv b:=by
 obtain ⟨n,hn⟩:∃n,n=a.length+b.length:=⟨_,rfl⟩;have cM:∀ct:Nat,Af ct 1 8 [.int .i64 0] (some n) (some n)=some (.aC ct 0 n,.cells true true true 1 ((yG n (0:Int)).map aa)):=fun ct=>by
  rw [Jy (sz:=1) (by omega) (by omega) (by rfl) (by rfl),RJ];rfl
 unfold ae;rw [ay h]
 simp only [go_sem,ya,yb,BG,hv.len,hw.len,wrapN (n:=n) (by omega),show (a.length:Int)+(b.length:Int)=((a.length+b.length:Nat):Int) from rfl,<-hn,cM];generalize hq:D P L (.loop [0,1,5,6] Ju) _=q;obtain ⟨ex,s,rfl,tm,out,rfl,rfl,t5,hlen,hd,aR⟩:=bD hq (asG (P:=P) (L:=L) hv hw ha hb (by omega) (by omega) hn a.length) ⟨0,yG n 0,by simp only [go_sem,ya,yb,an,ak hv.pu,ao _ hv.pu,ak hw.pu,ao _ hw.pu]<;>rfl,by omega,by simp,aaB n,by rw [aaA];simp [dv],fun m _=>Zf n m⟩
 have oG:=fy true out;rw [hlen] at oG;obtain ⟨r,e1,hr,gl⟩:=BO cJ oG (by omega);refine ⟨r,eb out,?_,hr,gl,A2 hd,E9 out,by rw [zC];exact aR⟩
 have fF:∀hp:Hp,lU 0 n (some (true,1,out.map aa,hp))=some (.aJ true n (out.map aa),hp):=fun hp=>qK true (by simp [hlen]) (by decide)
 simp only [go_sem,yb,an,t5,fF,e1,gl,hr.dw]
def KO (h:Has P L 278 O8) (lC:Has P L 293 BG) (ij:Has P L 294 BH) (cJ:Has P L 300 lS) {v w:AV} {n m:Int} {K:Nat} (hK:K<=8000000000) (hv:ja v n) (hw:ja w m) (hn:n.natAbs<1000000000^K) (hm:m.natAbs<1000000000^K):
  ∃r,ae P L 278 [v,w] r/\ja r (n*m):=by
 obtain ⟨x,a,rfl,hx,ha,na,va⟩:=hv;obtain ⟨y,b,rfl,hy,hb,nb,vb⟩:=hw;have la:=xn (iE ha na (by rw [va];exact hn)) hK
 have lb:=xn (iE hb nb (by rw [vb];exact hm)) hK
 obtain ⟨z,out,e1,hz,gl,hd,Cn,aR⟩:=VB lC cJ hx hy ha hb la lb;have lo:out.length<=20000000000:=by
  refine iE hd Cn ?_;rw [aR];have h1:=jL ha;have h2:=jL hb;have h3:dv a*dv b<1000000000^a.length*1000000000^b.length:=tB h1 h2;rw [<-wB] at h3;have hk:∀K,a.length+b.length<=K->dv a*dv b<1000000000^K:=fun K h=>yP h3 (xD (by decide) h)
  exact hk 20000000000 (by omega)
 obtain ⟨r,e2,hr⟩:=oA ij cJ (!(decide (n<0)==decide (m<0))) hz hd lo;have e:cf (!(decide (n<0)==decide (m<0))) (dv out)=n*m:=by
  rw [aR,va,vb];have hnm:((n.natAbs*m.natAbs:Nat):Int)=(n.natAbs:Int)*m.natAbs:=xL _ _;unfold cf;by_cases h0:n<0<;>by_cases h1:m<0<;>simp only [h0,h1,ym,yk,tC,yJ,yF,xh,hnm]
  ·rw [show (n.natAbs:Int)= -n by omega,show (m.natAbs:Int)= -m by omega,Int.neg_mul_neg]
  ·rw [show (true==false)=false from rfl,yI,yH rfl,show (n.natAbs:Int)= -n by omega,show (m.natAbs:Int)=m by omega,Int.neg_mul,ybm]
  ·rw [show (false==true)=false from rfl,yI,yH rfl,show (n.natAbs:Int)=n by omega,show (m.natAbs:Int)= -m by omega,Int.mul_neg,ybm]
  ·rw [show (n.natAbs:Int)=n by omega,show (m.natAbs:Int)=m by omega]
 rw [e] at hr;obtain ⟨w2,l2,rfl,iy,fT,jj,Ai⟩:=hr;refine ⟨_,?_,w2,l2,rfl,iy,fT,jj,Ai⟩;unfold ae at e1 e2 ⊢;rw [ay h];simp only [go_sem,ya,yb,O8,aK,hx.pu,hx.af,hx.one,hy.pu,hy.af,hy.one,hz.af,hz.shut,iy.pu,iy.one,aV,yd,bX,e1,pJ,apW,e2,dI,bC];rcases iy with ⟨rfl,_⟩ | ⟨e,rfl⟩<;>rfl
end
end
section
open Go (IntKind)
def apX (i:Nat) (q:List Int) (x:Int):(yG (i+1) (0:Int)++q).set i x=yG i 0++x::q:=by
 rw [List.replicate_succ',xF,List.set_append_right _ _ (by simp)]
 simp
section
variable {P:aG} {L:Lib}
def asH {v:AV} {a:List Int} (hv:bl v a) (ha:dg a) (la:a.length<=20000000000) {d:Nat} (h0:0<d) (h1:d<1000000000):
  ∀k s,(∃(j r:Nat) (q:List Int),aT [0,1,6,7,8] s=⟨[(0,v),(1,aa d),(6,.aC 0 0 a.length),(7,aa r),(8,aa ((j:Int)-1))],[(0,.cells true true true 1 ((yG j (0:Int)++q).map aa))],1,0⟩/\j=k/\j+q.length=a.length/\r<d/\dg q/\dv (a.drop j)=d*dv q+r)->
   ∃ex s',D P L (.loop [0,1,6,7,8] Jv) s=some (ex,s')/\∃tm r q,s'=⟨tm,[(0,.cells true true true 1 (q.map aa))],1,0⟩/\ex= .exit 0/\ah tm 6= .aC 0 0 a.length/\ah tm 7=aa (r:Nat)/\q.length=a.length/\r<d/\dg q/\dv a=d*dv q+r:=by
 intro dq sq;generalize bw:aT [0,1,6,7,8] sq=s0;revert bw s0 sq dq;apply dn;rintro k s ⟨j,r,q,rfl,rfl,hl,hr,hd,aR⟩
 cases j with
 | zero=>
  right
  simp only [go_sem,ya,Jv,show ¬(0:Int)<=((0:Nat):Int)-1 by omega];exact ⟨_,_,rfl,by simp,_,r,q,rfl,rfl,by simp only [go_sem,ya],by simp only [go_sem,ya],by omega,hr,hd,aR⟩
 | succ i=>
  left
  have hi:i<a.length:=by omega
  obtain ⟨x,hx⟩:∃x,x=a.getD i 0:=⟨_,rfl⟩;have e1:=qY hv hi;have gx:=iD ha i;rw [<-hx] at e1 gx;obtain ⟨t,ht⟩:∃t:Nat,t=r*1000000000+x.toNat:=⟨_,rfl⟩;have AE:(r:Int)*1000000000+x=(t:Int):=by omega
  have kL:t<d*1000000000:=by
   omega
  have fq:t/d<1000000000:=(xU h0).2 (by rw [xC];exact kL)
  have cw:t%d<d:=xz _ h0;have e2:((t:Nat):Int).tdiv d=((t/d:Nat):Int):=by rw [xZ (by omega)];rfl
  have e3:((t:Nat):Int).tmod d=((t%d:Nat):Int):=by rw [xE (by omega)];rfl
  have Ch:(yG (i+1) (0:Int)++q).length=a.length:=by simp;omega
  have aP:=fun (hp:Hp) (ct id:Nat) (ex:Bool)=>Cs (hp:=hp) (ct:=ct) (id:=id) (ex:=ex) (v:=((t/d:Nat):Int)) (l:=yG (i+1) (0:Int)++q) (o:=i) (by rw [Ch];exact hi)
  simp only [apX] at aP
  simp only [go_sem,ya,yh,Jv,show ((i+1:Nat):Int)-1=(i:Int) by omega,show (0:Int)<=(i:Int) by omega,wrap64 (n:=(r:Int)*1000000000) (by omega) (by omega),e1,AE,wrapN (n:=t) (by omega),fw _ _ _ (show (d:Int)≠0 by omega),fM _ _ _ (show (d:Int)≠0 by omega),e2,e3,wrapN (n:=t/d) (by omega),cW 0 0 (show i<a.length from hi),yd,aP]
  refine ⟨_,i,rfl,by omega,i,t%d,((t/d:Nat):Int)::q,?_,rfl,by simp;omega,cw,(hJ (a:=[((t/d:Nat):Int)]) (b:=q)).2 ⟨jG.2 ⟨ta _,ub.2 fq⟩,hd⟩,?_⟩
  ·rw [wrap64 (by omega) (by omega)];simp only [go_sem,ya,yb,an,ak hv.pu,ao _ hv.pu]<;>rfl
  ·have jm:a.drop i=x::a.drop (i+1):=by
    rw [yN hi,hx];simp [xK,wo hi]
   rw [jm];simp only [dv,aR,xp];have e:=xV t d;rw [xA,xA d,Nat.mul_left_comm 1000000000 d];omega
def agd (h:Has P L 299 BI) (cJ:Has P L 300 lS) {v:AV} {a:List Int} (hv:bl v a) (ha:dg a) (la:a.length<=20000000000) {d:Nat} (h0:0<d) (h1:d<1000000000):
  ∃r q,ae P L 299 [v,aa d] (.au [r,aa (dv a%d:Nat)])/\bl r q/\shut r=r/\bG r=r/\dg q/\nz q/\dv q=dv a/d:=by
 obtain ⟨n,hn⟩:∃n,n=a.length:=⟨_,rfl⟩;have cM:∀ct:Nat,Af ct 1 8 [.int .i64 0] (some n) (some n)=some (.aC ct 0 n,.cells true true true 1 ((yG n (0:Int)).map aa)):=fun ct=>by
  rw [Jy (sz:=1) (by omega) (by omega) (by rfl) (by rfl),RJ];rfl
 unfold ae;rw [ay h];simp only [go_sem,ya,yb,BI,hv.len,<-hn,cM];generalize hq:D P L (.loop [0,1,6,7,8] Jv) _=q;obtain ⟨ex,s,rfl,tm,r,qs,rfl,rfl,t6,t7,hlen,hr,hd,aR⟩:=bD hq (asH (P:=P) (L:=L) hv ha la h0 h1 a.length) ⟨a.length,0,[],by
  rw [wrap64 (by omega) (by omega),wJ,<-hn]
  simp only [go_sem,ya,yb,an,ak hv.pu,ao _ hv.pu]<;>rfl,rfl,by simp,h0,rfl,by rw [yT (yr _)];simp [dv]⟩
 have oG:=fy true qs;rw [hlen] at oG;obtain ⟨w,e1,hw,gl⟩:=BO cJ oG (by omega);have fu:dv a/d=dv qs/\dv a%d=r:=(Nat.div_mod_unique h0).2 ⟨by omega,hr⟩;refine ⟨w,eb qs,?_,hw,gl,hw.bG,A2 hd,E9 qs,by rw [zC,fu.1]⟩;have fF:∀hp:Hp,lU 0 a.length (some (true,1,qs.map aa,hp))=some (.aJ true a.length (qs.map aa),hp):=fun hp=>qK true (by simp [hlen]) (by decide)
 rw [fu.2];simp only [go_sem,ya,yb,an,t6,t7,fF,e1,gl];rcases hw with ⟨rfl,_⟩ | ⟨e,rfl⟩<;>rfl
def awx (h:Has P L 279 Gf) (PF:Has P L 295 Ks) (oC:Has P L 296 sG) (PG:Has P L 297 Kt) (mR:Has P L 302 sH) (ij:Has P L 294 BH) (cJ:Has P L 300 lS) {v w:AV} {n m:Int} {K:Nat} (hK:K<=8000000000) (hv:ja v n) (hw:ja w m) (hn:n.natAbs<1000000000^K) (hm:m.natAbs<1000000000^K):
  ∃r,ae P L 279 [v,w] r/\ja r (n+m):=by
 obtain ⟨x,a,rfl,hx,ha,na,va⟩:=hv;obtain ⟨y,b,rfl,hy,hb,nb,vb⟩:=hw;have la:=xn (iE ha na (by rw [va];exact hn)) hK
 have lb:=xn (iE hb nb (by rw [vb];exact hm)) hK
 by_cases hs:(decide (n<0)==decide (m<0))=true
 ·obtain ⟨z,out,e1,hz,hd,aR,hl⟩:=agb PF mR hx hy ha hb (by omega) (by omega);have lo:out.length<=20000000000:=by omega
  obtain ⟨r,e2,hr⟩:=oA ij cJ (decide (n<0)) hz hd lo;have e:cf (decide (n<0)) (dv out)=n+m:=by
   have EB:(n<0)=(m<0):=by simpa using eq_of_beq hs
   rw [aR,va,vb];unfold cf;by_cases h0:n<0
   ·have h1:m<0:=EB▸h0;simp only [h0,ym,xm];omega
   ·have h1:¬m<0:=EB▸h0;simp only [h0,yk,yF,xh];omega
  rw [e] at hr;obtain ⟨w2,l2,rfl,iy,fT,jj,Ai⟩:=hr;refine ⟨_,?_,w2,l2,rfl,iy,fT,jj,Ai⟩;unfold ae at e1 e2 ⊢;rw [ay h];simp only [go_sem,ya,yb,Gf,aK,hx.pu,hx.af,hx.one,hy.pu,hy.af,hy.one,hz.af,iy.pu,iy.one,aV,yd,bX,e1,pJ,dZ,hs,e2,dI,bC];rcases iy with ⟨rfl,_⟩ | ⟨e,rfl⟩<;>rfl
 ·have hs:(decide (n<0)==decide (m<0))=false:=by simpa using hs
  have EB:¬((n<0)=(m<0)):=fun e=>by simp [e] at hs
  have ec:=VA oC hx hy ha hb na nb (by omega) (by omega);by_cases hc:dv a<dv b
  ·have ez:dR (dv a) (dv b)= -1:=by unfold dR;rw [yH hc]
   rw [ez] at ec;obtain ⟨z,out,e1,hz,gl,hd,Cn,aR⟩:=agc PG mR cJ hy hx hb ha nb na (by omega) (by omega);have lo:out.length<=20000000000:=by
    refine iE hd Cn ?_
    have:=jL hb
    have hk:∀K,b.length<=K->dv out<1000000000^K:=fun K h=>yP (show dv out<1000000000^b.length by omega) (xD (by decide) h)
    exact hk 20000000000 (by omega)
   obtain ⟨r,e2,hr⟩:=oA ij cJ (decide (m<0)) hz hd lo;have e:cf (decide (m<0)) (dv out)=n+m:=by
    rw [va,vb] at aR;unfold cf;by_cases h0:m<0
    ·have h1:¬n<0:=fun h1=>EB (by simp [h0,h1])
     simp only [h0,ym,xm];omega
    ·have h1:n<0:=by
      by_cases h1:n<0
      ·exact h1
      ·exact absurd (by simp [h0,h1]) EB
     simp only [h0,yk,yF,xh];omega
   rw [e] at hr;obtain ⟨w2,l2,rfl,iy,fT,jj,Ai⟩:=hr;refine ⟨_,?_,w2,l2,rfl,iy,fT,jj,Ai⟩;unfold ae at e1 e2 ec ⊢;rw [ay h];simp only [go_sem,ya,yb,Gf,aK,hx.pu,hx.af,hx.one,hy.pu,hy.af,hy.one,hz.af,hz.shut,iy.pu,iy.one,aV,yd,bX,e1,pJ,dZ,hs,ec,show ¬(0:Int)<=-1 by decide,e2,dI,bC];rcases iy with ⟨rfl,_⟩ | ⟨e,rfl⟩<;>rfl
  ·have ez:(0:Int)<=dR (dv a) (dv b):=by unfold dR;rw [yA hc];split<;>decide
   obtain ⟨z,out,e1,hz,gl,hd,Cn,aR⟩:=agc PG mR cJ hx hy ha hb na nb (by omega) (by omega);have lo:out.length<=20000000000:=by
    refine iE hd Cn ?_
    have:=jL ha
    have hk:∀K,a.length<=K->dv out<1000000000^K:=fun K h=>yP (show dv out<1000000000^a.length by omega) (xD (by decide) h)
    exact hk 20000000000 (by omega)
   obtain ⟨r,e2,hr⟩:=oA ij cJ (decide (n<0)) hz hd lo;have e:cf (decide (n<0)) (dv out)=n+m:=by
    rw [va,vb] at aR;unfold cf;by_cases h0:n<0
    ·have h1:¬m<0:=fun h1=>EB (by simp [h0,h1])
     simp only [h0,ym,xm];omega
    ·have h1:m<0:=by
      by_cases h1:m<0
      ·exact h1
      ·exact absurd (by simp [h0,h1]) EB
     simp only [h0,yk,yF,xh];omega
   rw [e] at hr;obtain ⟨w2,l2,rfl,iy,fT,jj,Ai⟩:=hr;refine ⟨_,?_,w2,l2,rfl,iy,fT,jj,Ai⟩;unfold ae at e1 e2 ec ⊢;rw [ay h];simp only [go_sem,ya,yb,Gf,aK,hx.pu,hx.af,hx.one,hy.pu,hy.af,hy.one,hz.af,hz.shut,iy.pu,iy.one,aV,yd,bX,e1,pJ,dZ,hs,ec,ez,e2,dI,bC];rcases iy with ⟨rfl,_⟩ | ⟨e,rfl⟩<;>rfl
end
end
section
open Go (IntKind)
section
variable {P:aG} {L:Lib}
def S3 {l:List Int} (hd:dg l) (hn:nz l) (h:dv l<1000000000):l.length<=1:=iE hd hn (by simpa using h)
def awy (h:Has P L 289 sF) (oC:Has P L 296 sG) (pQ:Has P L 299 BI) (cJ:Has P L 300 lS) {v w:AV} {a b:List Int} (hv:bl v a) (hw:bl w b) (ha:dg a) (hb:dg b) (na:nz a) (nb:nz b) (la:a.length<=20000000000) (lb:b.length<=1) (h0:0<dv b):
  ∃q r lq lr,ae P L 289 [v,w] (.au [q,r])/\bl q lq/\bl r lr/\dg lq/\nz lq/\dg lr/\nz lr/\dv lq=dv a/dv b/\dv lr=dv a%dv b:=by
 have ec:=VA oC hv hw ha hb na nb la (by omega);by_cases hc:dv a<dv b
 ·have ez:dR (dv a) (dv b)= -1:=by unfold dR;rw [yH hc]
  rw [ez] at ec;refine ⟨.ab,v,[],a,?_,nf,hv,rfl,rfl,ha,na,?_,?_⟩
  ·unfold ae;rw [ay h];simp only [go_sem,ya,sF,hv.af,hw.af,ec,show (-1:Int)<0 by decide];rcases hv with ⟨rfl,_⟩ | ⟨e,rfl⟩<;>rfl
  ·rw [wC hc];rfl
  ·rw [yS hc]
 ·have ez:¬dR (dv a) (dv b)<0:=by unfold dR;rw [yA hc];split<;>decide
  have nM:b.length=1:=by
   rcases xt b.length with e | e
   ·rw [yD e] at h0;simp [dv] at h0
   ·omega
  obtain ⟨x,rfl⟩:∃x,b=[x]:=by
   cases b with
   | nil=>simp at nM
   | cons x r=>cases r with
    | nil=>exact ⟨x,rfl⟩
    | cons y r=>simp at nM
  have gx:=jG.1 hb;obtain ⟨d,hd⟩:∃d:Nat,x=d:=⟨x.toNat,by omega⟩;subst hd;have hdd:dv [((d:Nat):Int)]=d:=by simp [dv]
  rw [hdd] at h0 hc ez ec ⊢;obtain ⟨q,lq,e1,hq,hqs,awz,dq,nq,vq⟩:=agd pQ cJ hv ha la h0 (by omega);have ae0:dv a%d<d:=xz _ h0;generalize dv a%d=m at*
  obtain ⟨r,e2,hr,QS⟩:=BO cJ (fy true [(m:Int)]) (by simp);refine ⟨q,r,lq,eb [(m:Int)],?_,hq,hr,dq,nq,A2 (jG.2 (by omega)),E9 _,vq,by rw [zC];simp [dv]⟩;have e3:=hw.aZ (i:=0) (by simp);simp only [yC,yK,yd,yV,wz,List.getElem_cons_zero] at e2 e3;unfold ae;rw [ay h];simp only [go_sem,ya,yb,yt,yi,yh,sF,hv.af,hw.len,hw.af,ec,ez,yC,yK,show ((1:Nat):Int)=(1:Int) from rfl,ym,e3,e1,awz,e2,QS];rcases hq with ⟨rfl,_⟩ | ⟨e,rfl⟩<;>rcases hr with ⟨rfl,_⟩ | ⟨e',rfl⟩<;>rfl
end
end
section
open Go (IntKind)
def sv:List Int->Int
 | []=>0
 | a::r=>a+1000000000*sv r
def ZZ:∀(a b:List Int),sv (a++b)=sv a+1000000000^a.length*sv b
 | [],b=>by simp [sv]
 | x::a,b=>by
  simp only [xu,sv,ZZ a b,yC,uJ,ybF]
  grind
def asI (x:Int):sv [x]=x:=by simp [sv]
def FL:∀{l:List Int} {i:Nat} {x:Int},i<l.length->sv (l.set i x)=sv l+1000000000^i*(x-l.getD i 0)
 | [],i,x,h=>by simp at h
 | a::l,0,x,_=>by simp [sv];omega
 | a::l,i+1,x,h=>by
  have ih:=FL (l:=l) (i:=i) (x:=x) (by simpa using h);simp only [List.set_cons_succ,sv,List.getD_cons_succ,ih,uJ,ybF]
  grind
def NO {l:List Int} (i:Nat):sv (l.take (i+1))=sv (l.take i)+1000000000^i*l.getD i 0:=by
 by_cases h:i<l.length
 ·rw [List.take_succ_eq_append_getElem h,ZZ,yQ,xX (by omega),asI]
  grind
 ·rw [yp (by omega),yp (by omega),IW (by omega),Int.mul_zero,Int.add_zero]
def zY:∀{l:List Int},dg l->sv l=dv l
 | [],_=>rfl
 | a::l,h=>by
  obtain ⟨h1,h2⟩:=hJ.1 (show dg ([a]++l) from h);have h1:=jG.1 h1;simp only [sv,dv,zY h2,yaB,xL];omega
section
variable {pre x post:List Int} {i:Nat}
def n9:(pre++x++post).length=pre.length+x.length+post.length:=by grind
def Bl (h:i<x.length):(pre++x++post).getD (pre.length+i) 0=x.getD i 0:=by grind
def N1 (a:Int) (h:i<x.length):(pre++x++post).set (pre.length+i) a=pre++x.set i a++post:=by simp_all
end
def ady {l:List Int} {i m:Nat} {x:Int} (h:i≠m):(l.set i x).getD m 0=l.getD m 0:=by simp_all
def alF {l:List Int} {i:Nat} {x:Int} (h:i<l.length):(l.set i x).getD i 0=x:=by simp_all
abbrev H3 (q u:List Int) (f:Int):Hp:=[(2,.cells true true true 1 (q.map aa)),(1,.cells true true false 1 (u.map aa)),(0,.cells false true true 1 [aa f])]
def Np {live:List Nat} {tm:Env} {ct:Nat} {a b c:List AV} (ht:qW 3 (eh tm live)) (hl:(jx (eh tm live)).length<100000):
  aT live ⟨tm,[(2,.cells true true true 1 a),(1,.cells true true false 1 b),(0,.cells false true true 1 c)],ct,3⟩=⟨eh tm live,[(2,.cells true true true 1 a),(1,.cells true true false 1 b),(0,.cells false true true 1 c)],3,3⟩:=
 YA ht ⟨by omega,.inl rfl,by omega,.inl rfl,by omega,.inl rfl,trivial⟩ (by
  have:jt 3 [(2,Obj.cells true true true 1 a),(1,Obj.cells true true false 1 b),(0,Obj.cells false true true 1 c)]=[]:=rfl
  rw [this,yK,y7];exact hl)
structure gm (x vs:List Int) (n v1 v2 u0 u1 u2:Nat):Prop where
 n2:2<=n
 nb:n<=20000000000
 lx:x.length=n+1
 lv:vs.length=n
 gx:dg x
 gv:dg vs
 eZ:vs.getD (n-1) 0=(v1:Int)
 cY:vs.getD (n-2) 0=(v2:Int)
 h0:x.getD n 0=(u0:Int)
 h1:x.getD (n-1) 0=(u1:Int)
 h2:x.getD (n-2) 0=(u2:Int)
 pos:0<v1
 lt:dv x<1000000000*dv vs
section
variable {x vs:List Int} {n v1 v2 u0 u1 u2:Nat}
def gm.LJ (h:gm x vs n v1 v2 u0 u1 u2):v1<1000000000:=by have:=iD h.gv (n-1);rw [h.eZ] at this;omega
def gm.Ep (h:gm x vs n v1 v2 u0 u1 u2):v2<1000000000:=by have:=iD h.gv (n-2);rw [h.cY] at this;omega
def gm.Xa (h:gm x vs n v1 v2 u0 u1 u2):u0<1000000000:=by have:=iD h.gx n;rw [h.h0] at this;omega
def gm.LK (h:gm x vs n v1 v2 u0 u1 u2):u1<1000000000:=by have:=iD h.gx (n-1);rw [h.h1] at this;omega
def gm.LL (h:gm x vs n v1 v2 u0 u1 u2):u2<1000000000:=by have:=iD h.gx (n-2);rw [h.h2] at this;omega
def gm.parts (h:gm x vs n v1 v2 u0 u1 u2):∃p vr ur,dv vs=(v1*1000000000+v2)*p+vr/\vr<p/\dv x=((u0*1000000000+u1)*1000000000+u2)*p+ur/\ur<p:=by
 obtain ⟨m,hm⟩:∃m,n=m+2:=⟨n-2,by have:=h.n2;omega⟩;subst hm;have e1:=pn (l:=vs) (m+1);have e2:=pn (l:=vs) m;have f0:=pn (l:=x) (m+2);have f1:=pn (l:=x) (m+1);have f2:=pn (l:=x) m;have eZ:vs.getD (m+1) 0=(v1:Int):=h.eZ;have cY:vs.getD m 0=(v2:Int):=h.cY;have h0:x.getD (m+2) 0=(u0:Int):=h.h0;have h1:x.getD (m+1) 0=(u1:Int):=h.h1;have h2:x.getD m 0=(u2:Int):=h.h2
 rw [yp (by have:=h.lv;omega),eZ,e2,cY] at e1
 rw [yp (by have:=h.lx;omega),h0,f1,h1,f2,h2] at f0;simp only [xp] at e1 f0;have g1:=jL (CU h.gv m)
 rw [yQ,xX (by have:=h.lv;omega)] at g1;have g2:=jL (CU h.gx m)
 rw [yQ,xX (by have:=h.lx;omega)] at g2;refine ⟨1000000000^m,_,_,?_,g1,?_,g2⟩
 ·rw [e1,xk,aum]
 ·rw [f0,show 1000000000^(m+2)=1000000000^m*1000000000*1000000000 by rw [xk,xk],xk,aun]
def gm.down (h:gm x vs n v1 v2 u0 u1 u2) {t r:Nat} (ht:t*v1+r=u0*1000000000+u1) (hr:r*1000000000+u2<t*v2):dv x/dv vs<=t-1:=by
 obtain ⟨p,vr,ur,h1,h2,h3,h4⟩:=h.parts;exact Y2 h1 h3 h4 ht hr
def gm.stop (h:gm x vs n v1 v2 u0 u1 u2) {t r:Nat} (kL:t<1000000000) (ht:t*v1+r=u0*1000000000+u1) (hr:1000000000<=r\/t*v2<=r*1000000000+u2):t<=dv x/dv vs+1:=by
 obtain ⟨p,vr,ur,h1,h2,h3,h4⟩:=h.parts;exact ZM (by decide) h1 h2 h3 h.pos h.Ep kL ht hr
def gm.first (h:gm x vs n v1 v2 u0 u1 u2):dv x/dv vs<=(u0*1000000000+u1)/v1:=by
 obtain ⟨p,vr,ur,h1,h2,h3,h4⟩:=h.parts;exact Rr h1 h3 h4 h.LL h.pos
def gm.top (h:gm x vs n v1 v2 u0 u1 u2):u0<=v1:=by
 obtain ⟨p,vr,ur,h1,h2,h3,h4⟩:=h.parts;exact ZN h1 h3 h2 h.Ep h.lt
def gm.digit (h:gm x vs n v1 v2 u0 u1 u2):dv x/dv vs<1000000000:=by
 refine (xU ?_).2 h.lt;rcases xt (dv vs) with h0 | h0
 ·have:=h.lt;rw [h0] at this;simp at this
 ·exact h0
def gm.small (h:gm x vs n v1 v2 u0 u1 u2) {t r:Nat} (ht:t*v1+r=u0*1000000000+u1) (hb:1000000000<=t):r<1000000000:=by
 have h1:=h.top;have h2:=h.LK;have h3:=yX v1 hb
 grind
end
def awA {r u:Nat} (hr:r<1000000000) (hu:u<1000000000):r*1000000000<9223372036854775808/\r*1000000000+u<9223372036854775808:=by omega
section
variable {P:aG} {L:Lib}
def apY {w:AV} {x vs pre post qs:List Int} {f:Int} (hw:bl w vs) {n v1 v2 u0 u1 u2 M:Nat} (hl:gm x vs n v1 v2 u0 u1 u2) (hM:M=pre.length+x.length+post.length) (L5:M<=50000000000):
  ∀k s,(∃t r:Nat,aT [0,1,2,7,9,10] s=⟨[(0,.aC 1 0 M),(1,w),(2,aa pre.length),(7,aa n),(9,aa t),(10,aa r)],H3 qs (pre++x++post) f,3,3⟩/\t*v1+r=u0*1000000000+u1/\r<1000000000/\dv x/dv vs<=t/\t=k)->
   ∃ex s',D P L (.loop [0,1,2,7,9,10] Bh) s=some (ex,s')/\∃tm ct t,s'=⟨tm,H3 qs (pre++x++post) f,ct,3⟩/\((ex= .exit 0/\ah tm 9=aa (t:Nat))\/(ex= .ret/\ah tm 6=aa (t:Nat)))/\ct=3/\t<1000000000/\dv x/dv vs<=t/\t<=dv x/dv vs+1:=by
 intro dq sq;generalize bw:aT [0,1,2,7,9,10] sq=s0;revert bw s0 sq dq;apply dn;rintro k s ⟨t,r,rfl,ht,hr,hQ,rfl⟩;have ew:=hl.n2;have qd:=hl.nb;have hlx:=hl.lx;have Gq:=hl.LJ;have Va:=hl.Ep;have afJ:=hl.LL;have awB:=hl.Xa;have Pw:=hl.LK;have sO:=hl.pos;have qj:=qY hw (i:=n-2) (by have:=hl.lv;omega);have fa:=qY hw (i:=n-1) (by have:=hl.lv;omega);rw [hl.cY] at qj;rw [hl.eZ] at fa;have zo:=sC (l:=pre++x++post) (o:=pre.length+(n-2)) (by rw [n9];omega);rw [Bl (by omega),hl.h2] at zo;have AJ:(n:Int)-2=((n-2:Nat):Int):=by omega
 have qt:(n:Int)-1=((n-1:Nat):Int):=by omega
 have L6:(pre.length:Int)+(n:Int)=((pre.length+n:Nat):Int):=rfl;have XD:((pre.length+n:Nat):Int)-2=((pre.length+(n-2):Nat):Int):=by omega
 have aBc:t<=1000000000000000000:=by
  have:=yU t sO
  omega
 have aBd:t*1<=t*v1:=yU t sO;obtain ⟨XE,XF⟩:=awA hr afJ;by_cases oM:1000000000<=t\/r*1000000000+u2<t*v2
 ·have ht0:0<t:=by
   rcases xt t with h0 | h0
   ·subst h0;omega
   ·exact h0
  have h1:(t-1)*v1+(r+v1)=u0*1000000000+u1:=by
   obtain ⟨p,rfl⟩:∃p,t=p+1:=⟨t-1,by omega⟩;rw [xH,Nat.one_mul] at ht;rw [Nat.add_sub_cancel];omega
  have AK:dv x/dv vs<=t-1:=by
   rcases oM with h | h
   ·have:=hl.digit;generalize dv x/dv vs=q at*;omega
   ·exact hl.down ht h
  have QT:((t:Nat):Int)-1=((t-1:Nat):Int):=by omega
  have stop:1000000000<=r+v1->t-1<1000000000/\t-1<=dv x/dv vs+1:=fun hb=>by
   have a7:t-1<1000000000:=by
    by_cases sZ:1000000000<=t-1
    ·have:=hl.small h1 sZ;omega
    ·omega
   exact ⟨a7,hl.stop a7 h1 (.inl hb)⟩
  by_cases hb:1000000000<=t
  ·by_cases ep:1000000000<=r+v1
   ·right
    obtain ⟨s1,s2⟩:=stop ep
    simp only [go_sem,ya,Bh,H3,show (1000000000:Int)<=(t:Int) by omega,QT,wrapN (n:=t-1) (by omega),qt,wrapN (n:=n-1) (by omega),fa,show (r:Int)+(v1:Int)=((r+v1:Nat):Int) from rfl,wrapN (n:=r+v1) (by omega),show (1000000000:Int)<=((r+v1:Nat):Int) by omega];exact ⟨_,_,rfl,by simp,_,_,t-1,rfl,.inr ⟨rfl,by simp only [go_sem]⟩,rfl,s1,AK,s2⟩
   ·left
    simp only [go_sem,ya,Bh,H3,show (1000000000:Int)<=(t:Int) by omega,QT,wrapN (n:=t-1) (by omega),qt,wrapN (n:=n-1) (by omega),fa,show (r:Int)+(v1:Int)=((r+v1:Nat):Int) from rfl,wrapN (n:=r+v1) (by omega),show ¬(1000000000:Int)<=((r+v1:Nat):Int) by omega];refine ⟨_,t-1,rfl,by omega,t-1,r+v1,?_,h1,by omega,AK,rfl⟩;rw [Np (by simp only [go_sem,ya,yt,mw,nl,mo,mj,qF hw.pu,wL]) (by simp only [go_sem,ya,yb,yt,ak hw.pu])];simp only [go_sem,ya]
  ·have Cb:=xB (show t<=999999999 by omega) (show v2<=999999999 by omega);have VD:r*1000000000+u2<t*v2:=oM.resolve_left hb;obtain ⟨m,hm⟩:∃m,t*v2=m:=⟨_,rfl⟩;have em:(t:Int)*(v2:Int)=(m:Int):=by rw [<-hm,xL]
   rw [hm] at VD Cb;have G3:(r:Int)*1000000000=((r*1000000000:Nat):Int):=by omega
   have Ci:((r*1000000000:Nat):Int)+(u2:Int)=((r*1000000000+u2:Nat):Int):=rfl;by_cases ep:1000000000<=r+v1
   ·right
    obtain ⟨s1,s2⟩:=stop ep
    simp only [go_sem,ya,yh,Bh,H3,show ¬(1000000000:Int)<=(t:Int) by omega,AJ,wrapN (n:=n-2) (by omega),qj,em,wrapN (n:=m) (by omega),G3,wrapN XE,L6,wrapN (n:=pre.length+n) (by omega),XD,wrapN (n:=pre.length+(n-2)) (by omega),cW 1 0 (show pre.length+(n-2)<M by omega),yd,zo,Ci,wrapN XF,show ((r*1000000000+u2:Nat):Int)<(m:Int) from ub.2 VD,QT,wrapN (n:=t-1) (by omega),qt,wrapN (n:=n-1) (by omega),fa,show (r:Int)+(v1:Int)=((r+v1:Nat):Int) from rfl,wrapN (n:=r+v1) (by omega),show (1000000000:Int)<=((r+v1:Nat):Int) by omega];exact ⟨_,_,rfl,by simp,_,_,t-1,rfl,.inr ⟨rfl,by simp only [go_sem]⟩,rfl,s1,AK,s2⟩
   ·left
    simp only [go_sem,ya,yh,Bh,H3,show ¬(1000000000:Int)<=(t:Int) by omega,AJ,wrapN (n:=n-2) (by omega),qj,em,wrapN (n:=m) (by omega),G3,wrapN XE,L6,wrapN (n:=pre.length+n) (by omega),XD,wrapN (n:=pre.length+(n-2)) (by omega),cW 1 0 (show pre.length+(n-2)<M by omega),yd,zo,Ci,wrapN XF,show ((r*1000000000+u2:Nat):Int)<(m:Int) from ub.2 VD,QT,wrapN (n:=t-1) (by omega),qt,wrapN (n:=n-1) (by omega),fa,show (r:Int)+(v1:Int)=((r+v1:Nat):Int) from rfl,wrapN (n:=r+v1) (by omega),show ¬(1000000000:Int)<=((r+v1:Nat):Int) by omega];refine ⟨_,t-1,rfl,by omega,t-1,r+v1,?_,h1,by omega,AK,rfl⟩;rw [Np (by simp only [go_sem,ya,yt,mw,nl,mo,mj,qF hw.pu,wL]) (by simp only [go_sem,ya,yb,yt,ak hw.pu])];simp only [go_sem,ya]
 ·right
  have kL:t<1000000000:=Nat.lt_of_not_le fun e=>oM (.inl e)
  have Cb:=xB (show t<=999999999 from tg kL) (show v2<=999999999 from tg Va);have VF:t*v2<=r*1000000000+u2:=Nat.le_of_not_lt fun e=>oM (.inr e)
  have auy:=hl.stop kL ht (.inr VF);obtain ⟨m,hm⟩:∃m,t*v2=m:=⟨_,rfl⟩;have em:(t:Int)*(v2:Int)=(m:Int):=by rw [<-hm,xL]
  rw [hm] at VF Cb;have G3:(r:Int)*1000000000=((r*1000000000:Nat):Int):=by omega
  have Ci:((r*1000000000:Nat):Int)+(u2:Int)=((r*1000000000+u2:Nat):Int):=rfl
  simp only [go_sem,ya,yh,Bh,H3,show ¬(1000000000:Int)<=(t:Int) by omega,AJ,wrapN (n:=n-2) (by omega),qj,em,wrapN (n:=m) (by omega),G3,wrapN XE,L6,wrapN (n:=pre.length+n) (by omega),XD,wrapN (n:=pre.length+(n-2)) (by omega),cW 1 0 (show pre.length+(n-2)<M by omega),yd,zo,Ci,wrapN XF,show ¬((r*1000000000+u2:Nat):Int)<(m:Int) from fun e=>Nat.not_lt_of_le VF (ub.1 e)];exact ⟨_,_,rfl,by simp,_,_,t,rfl,.inl ⟨rfl,by simp only [go_sem,ya]⟩,rfl,kL,hQ,auy⟩
def auz (h:Has P L 301 Ad) {w:AV} {x vs pre post qs:List Int} {f:Int} (hw:bl w vs) {n v1 v2 u0 u1 u2 M:Nat} (hl:gm x vs n v1 v2 u0 u1 u2) (hM:M=pre.length+x.length+post.length) (L5:M<=50000000000):
  ∃t:Nat,je P L (D P L) (H3 qs (pre++x++post) f) 3 301 [.aC 1 0 M,w,aa pre.length]=some (aa t,H3 qs (pre++x++post) f,3)/\t<1000000000/\dv x/dv vs<=t/\t<=dv x/dv vs+1:=by
 have ew:=hl.n2;have qd:=hl.nb;have hlx:=hl.lx;have zp:below 3 w:=qF hw.pu;have Gq:=hl.LJ;have awB:=hl.Xa;have Pw:=hl.LK;have sO:=hl.pos;have fa:=qY hw (i:=n-1) (by have:=hl.lv;omega);rw [hl.eZ] at fa;have Cl:=sC (l:=pre++x++post) (o:=pre.length+n) (by rw [n9];omega);rw [Bl (by omega),hl.h0] at Cl;have Cm:=sC (l:=pre++x++post) (o:=pre.length+(n-1)) (by rw [n9];omega);rw [Bl (by omega),hl.h1] at Cm;have qt:(n:Int)-1=((n-1:Nat):Int):=by omega
 have L6:(pre.length:Int)+(n:Int)=((pre.length+n:Nat):Int):=rfl;have pn1:((pre.length+n:Nat):Int)-1=((pre.length+(n-1):Nat):Int):=by omega
 obtain ⟨m,hm⟩:∃m,m=u0*1000000000+u1:=⟨_,rfl⟩;have em:(u0:Int)*1000000000=((u0*1000000000:Nat):Int):=by omega
 have em2:((u0*1000000000:Nat):Int)+(u1:Int)=(m:Int):=by omega
 have fu:=xV m v1;have pP:=xz m sO;have NY:=hl.first;rw [<-hm] at NY;have aBq:m/v1<=m:=Nat.div_le_self _ _;have oq:IntKind.wrap .i64 ((m:Int).tdiv (v1:Int))=((m/v1:Nat):Int):=by
  rw [xZ (by omega),<-Int.natCast_ediv,wrapN (by omega)]
 have or':(m:Int).tmod (v1:Int)=((m%v1:Nat):Int):=by rw [xE (by omega),<-Int.natCast_emod]
 rw [xC] at fu;generalize m/v1=q0 at*
 generalize m%v1=r0 at*
 have jh:∃ex tm t,D P L Ad.body ⟨fL 0 [.aC 1 0 M,w,aa pre.length],H3 qs (pre++x++post) f,3,3⟩=some (ex,⟨tm,H3 qs (pre++x++post) f,3,3⟩)/\(ex= .normal\/ex= .ret)/\ah tm 6=aa (t:Nat)/\t<1000000000/\dv x/dv vs<=t/\t<=dv x/dv vs+1:=by
  simp only [go_sem,ya,yh,Ad,H3,hw.len,hl.lv,L6,wrapN (n:=pre.length+n) (by omega),cW 1 0 (show pre.length+n<M by omega),yd,Cl,em,wrapN (n:=u0*1000000000) (by omega),pn1,wrapN (n:=pre.length+(n-1)) (by omega),cW 1 0 (show pre.length+(n-1)<M by omega),Cm,em2,wrapN (n:=m) (by omega),qt,wrapN (n:=n-1) (by omega),fa,fw _ _ _ (show (v1:Int)≠0 by omega),fM _ _ _ (show (v1:Int)≠0 by omega),oq,or'];generalize nc:D P L (.loop [0,1,2,7,9,10] Bh) _=qq;obtain ⟨ex,s,rfl,tm,ct,t,rfl,BM,rfl,g1,g2,g3⟩:=bD nc (apY (P:=P) (L:=L) (qs:=qs) (f:=f) hw hl hM L5 q0) ⟨q0,r0,by
   rw [Np (by simp only [go_sem,ya,yt,mw,nl,mo,mj,zp,wL]) (by simp only [go_sem,ya,yb,yt,ak hw.pu])]
   simp only [go_sem,ya],by omega,by omega,NY,rfl⟩
  rcases BM with ⟨rfl,h9⟩ | ⟨rfl,h6⟩
  ·simp only [go_sem,yt,H3,Np,mw,mo,mj,h9,and_self];exact ⟨_,_,t,rfl,.inr rfl,by simp only [go_sem],g1,g2,g3⟩
  ·simp only [go_sem];exact ⟨_,_,t,rfl,.inr rfl,h6,g1,g2,g3⟩
 obtain ⟨ex,tm,t,g1,g2,g3,g4,g5,g6⟩:=jh;exact ⟨t,abN h g1 g2 (by show jb _ [RV.t 6]=_;rw [U1,Ud,g3]),g4,g5,g6⟩
end
end
section
open Go (IntKind)
def awC {t v bo:Int} (ht:0<=t/\t<1000000000) (hv:0<=v/\v<1000000000) (hb:0<=bo/\bo<1000000000):0<=t*v/\t*v<=999999998000000001/\0<=t*v+bo/\t*v+bo<=999999999000000000:=by
 have h1:=uz ht.1 hv.1;have h2:=Int.mul_le_mul (show t<=999999999 by omega) (show v<=999999999 by omega) hv.1 (by decide);omega
def awD {x p:Int} (hx:0<=x/\x<1000000000) (hp:0<=p/\p<=999999999000000000):
  (x-p.tmod 1000000000<0->0<=x-p.tmod 1000000000+1000000000/\x-p.tmod 1000000000+1000000000<1000000000/\0<=p.tdiv 1000000000+1/\p.tdiv 1000000000+1<1000000000/\x-p.tmod 1000000000+1000000000+p=x+1000000000*(p.tdiv 1000000000+1))/\
  (¬x-p.tmod 1000000000<0->x-p.tmod 1000000000<1000000000/\0<=p.tdiv 1000000000/\p.tdiv 1000000000<1000000000/\x-p.tmod 1000000000+p=x+1000000000*p.tdiv 1000000000):=by grind
def S4 {l:List Int} (h:dg l) {i:Nat} {z:Int} (hz:0<=z/\z<1000000000):dg (l.set i z):=NU h hz
def apZ {b p z q v bo AL x X Y S:Int} (h2:z+(q*v+bo)=x+b*AL) (h3:Y+q*X=S+p*bo):(Y+p*(z-x))+q*(X+p*v)=S+p*b*AL:=by grind
section
variable {P:aG} {L:Lib}
def ap0 {w:AV} {x vs pre post qs:List Int} {f:Int} (hw:bl w vs) {n M m:Nat} (lv:vs.length=n) (hM:M=pre.length+(n+1)+post.length) (L5:M<=50000000000) (gv:dg vs) {t:Int} (ht:0<=t/\t<1000000000):
  ∀k s,(∃(i:Nat) (bo:Int) (y:List Int),aT [8,9,10,11,12,13,14,15,16] s=⟨[(8,.aC 0 0 1),(9,w),(10,aa n),(11,.aC 1 0 M),(12,.aC 2 0 m),(13,aa pre.length),(14,aa t),(15,aa bo),(16,aa i)],H3 qs (pre++y++post) f,3,0⟩/\i+k=n/\y.length=n+1/\dg y/\(0<=bo/\bo<1000000000)/\
    sv y+t*sv (vs.take i)=sv x+1000000000^i*bo)->
   ∃ex s',D P L (.loop [8,9,10,11,12,13,14,15,16] Fv) s=some (ex,s')/\∃tm bo y,s'=⟨tm,H3 qs (pre++y++post) f,3,0⟩/\ex= .exit 4/\ah tm 8= .aC 0 0 1/\ah tm 9=w/\ah tm 10=aa n/\ah tm 11= .aC 1 0 M/\ah tm 12= .aC 2 0 m/\ah tm 13=aa pre.length/\ah tm 14=aa t/\ah tm 15=aa bo/\y.length=n+1/\dg y/\(0<=bo/\bo<1000000000)/\
    sv y+t*sv vs=sv x+1000000000^n*bo:=by
 intro dq sq;generalize bw:aT [8,9,10,11,12,13,14,15,16] sq=s0;revert bw s0 sq dq;apply dn;rintro k s ⟨i,bo,y,rfl,hk,ly,gy,jo,aR⟩;by_cases hi:i<n
 ·left
  have rI:=iD gv i;have qu:=iD gy i;have ev:=qY hw (i:=i) (by omega);have ey:=sC (l:=pre++y++post) (o:=pre.length+i) (by rw [n9];omega);rw [Bl (by omega)] at ey;have eK:=NO (l:=vs) i;obtain ⟨a,ha⟩:∃a,a=vs.getD i 0:=⟨_,rfl⟩;obtain ⟨d,hd⟩:∃d,d=y.getD i 0:=⟨_,rfl⟩;rw [<-ha] at rI ev eK;rw [<-hd] at qu ey;obtain ⟨p1,p2,p3,p4⟩:=awC ht rI jo;obtain ⟨s1,s2⟩:=awD qu ⟨p3,p4⟩;have fc:(i:Int)+(pre.length:Int)=((pre.length+i:Nat):Int):=by omega
  have aP:=fun (hp:Hp) (ct:Nat) (z:Int)=>Cs (hp:=hp) (ct:=ct) (id:=1) (v:=z) (ex:=false) (l:=pre++y++post) (o:=pre.length+i) (by rw [n9];omega)
  have om:=fun z=>N1 (pre:=pre) (x:=y) (post:=post) (i:=i) z (by omega)
  have bg:=fun z=>FL (l:=y) (i:=i) (x:=z) (by omega)
  rw [<-hd] at bg;obtain ⟨pr,oE⟩:∃pr,pr=t*a+bo:=⟨_,rfl⟩;obtain ⟨dm,fu⟩:∃dm,pr.tmod 1000000000=dm:=⟨_,rfl⟩;obtain ⟨dq,Eu⟩:∃dq,pr.tdiv 1000000000=dq:=⟨_,rfl⟩;have aBr:0<=dm/\dm<1000000000:=by rw [<-fu,xE (by omega)];omega
  have aBs:0<=dq/\dq<1000000000:=by rw [<-Eu,xZ (by omega)];omega
  rw [<-oE,fu,Eu] at s1 s2;have key:∀z AL,z+(t*a+bo)=d+1000000000*AL->sv (y.set i z)+t*sv (vs.take (i+1))=sv x+1000000000^(i+1)*AL:=fun z AL h=>by
   rw [bg,eK,uJ];exact apZ h aR
  rw [<-oE] at key;by_cases fJ:d-dm<0
  ·obtain ⟨q1,q2,q3,q4,q5⟩:=s1 fJ;have kk:=key _ _ q5;obtain ⟨dr,jm⟩:∃dr,d-dm=dr:=⟨_,rfl⟩;rw [jm] at fJ kk q1 q2
   simp only [go_sem,ya,yh,Fv,H3,show (i:Int)<(n:Int) by omega,ev,wrap64 (n:=t*a) (by omega) (by omega),<-oE,wrap64 (n:=pr) (by omega) (by omega),fc,wrapN (n:=pre.length+i) (by omega),cW 1 0 (show pre.length+i<M by omega),yd,ey,fM _ _ _ (show (1000000000:Int)≠0 by decide),fw _ _ _ (show (1000000000:Int)≠0 by decide),fu,Eu,jm,wrap64 (n:=dr) (by omega) (by omega),wrap64 (n:=dq) (by omega) (by omega),fJ,wrap64 (n:=dr+1000000000) (by omega) (by omega),wrap64 (n:=dq+1) (by omega) (by omega),aP,om];refine ⟨_,k-1,rfl,by omega,i+1,dq+1,y.set i (dr+1000000000),?_,by omega,by simp [ly],S4 gy ⟨q1,q2⟩,⟨q3,q4⟩,kk⟩;rw [wrap64 (by omega) (by omega)];simp only [go_sem,ya,yb,an,ak hw.pu,ao _ hw.pu]<;>rfl
  ·obtain ⟨q2,q3,q4,q5⟩:=s2 fJ;have kk:=key _ _ q5;obtain ⟨dr,jm⟩:∃dr,d-dm=dr:=⟨_,rfl⟩;rw [jm] at fJ kk q2
   simp only [go_sem,ya,yh,Fv,H3,show (i:Int)<(n:Int) by omega,ev,wrap64 (n:=t*a) (by omega) (by omega),<-oE,wrap64 (n:=pr) (by omega) (by omega),fc,wrapN (n:=pre.length+i) (by omega),cW 1 0 (show pre.length+i<M by omega),yd,ey,fM _ _ _ (show (1000000000:Int)≠0 by decide),fw _ _ _ (show (1000000000:Int)≠0 by decide),fu,Eu,jm,wrap64 (n:=dr) (by omega) (by omega),wrap64 (n:=dq) (by omega) (by omega),fJ,aP,om];refine ⟨_,k-1,rfl,by omega,i+1,dq,y.set i dr,?_,by omega,by simp [ly],S4 gy ⟨by omega,q2⟩,⟨q3,q4⟩,kk⟩;rw [wrap64 (by omega) (by omega)];simp only [go_sem,ya,yb,an,ak hw.pu,ao _ hw.pu]<;>rfl
 ·right
  have:i=n:=by omega
  subst this;rw [yp (by omega)] at aR;simp only [go_sem,ya,Fv,H3,show ¬(i:Int)<(i:Int) by omega];exact ⟨_,_,rfl,by simp,_,bo,y,rfl,rfl,by simp only [go_sem,ya],by simp only [go_sem,ya],by simp only [go_sem,ya],by simp only [go_sem,ya],by simp only [go_sem,ya],by simp only [go_sem,ya],by simp only [go_sem,ya],by simp only [go_sem,ya],ly,gy,jo,aR⟩
def ap1 {b p z v c c' x X Y S:Int} (h2:z+b*c'=x+v+c) (h3:Y+p*c=S+X):(Y+p*(z-x))+p*b*c'=S+(X+p*v):=by grind
def ap2 {w:AV} {y0 vs pre post qs:List Int} {f:Int} (hw:bl w vs) {n M m:Nat} (lv:vs.length=n) (hM:M=pre.length+(n+1)+post.length) (L5:M<=50000000000) (gv:dg vs) {t top:Int}:
  ∀k s,(∃(i:Nat) (c:Int) (y:List Int),aT [8,9,10,11,12,13,14,19,20] s=⟨[(8,.aC 0 0 1),(9,w),(10,aa n),(11,.aC 1 0 M),(12,.aC 2 0 m),(13,aa pre.length),(14,aa t),(19,aa c),(20,aa i)],H3 qs (pre++y++post) f,3,0⟩/\i+k=n/\y.length=n+1/\dg (y.take n)/\y.getD n 0=top/\(0<=c/\c<=1)/\
    sv y+1000000000^i*c=sv y0+sv (vs.take i))->
   ∃ex s',D P L (.loop [8,9,10,11,12,13,14,19,20] Jp) s=some (ex,s')/\∃tm c y,s'=⟨tm,H3 qs (pre++y++post) f,3,0⟩/\ex= .exit 6/\ah tm 8= .aC 0 0 1/\ah tm 9=w/\ah tm 10=aa n/\ah tm 11= .aC 1 0 M/\ah tm 12= .aC 2 0 m/\ah tm 13=aa pre.length/\ah tm 14=aa t/\ah tm 19=aa c/\y.length=n+1/\dg (y.take n)/\y.getD n 0=top/\(0<=c/\c<=1)/\
    sv y+1000000000^n*c=sv y0+sv vs:=by
 intro dq sq;generalize bw:aT [8,9,10,11,12,13,14,19,20] sq=s0;revert bw s0 sq dq;apply dn;rintro k s ⟨i,c,y,rfl,hk,ly,gy,ot,hc,aR⟩;by_cases hi:i<n
 ·left
  have rI:=iD gv i;have qu:=iD gy i;have e0:(y.take n).getD i 0=y.getD i 0:=by
   simp [xK,hi]
  rw [e0] at qu;have ev:=qY hw (i:=i) (by omega);have ey:=sC (l:=pre++y++post) (o:=pre.length+i) (by rw [n9];omega);rw [Bl (by omega)] at ey;have eK:=NO (l:=vs) i;obtain ⟨a,ha⟩:∃a,a=vs.getD i 0:=⟨_,rfl⟩;obtain ⟨d,hd⟩:∃d,d=y.getD i 0:=⟨_,rfl⟩;rw [<-ha] at rI ev eK;rw [<-hd] at qu ey;have fc:(i:Int)+(pre.length:Int)=((pre.length+i:Nat):Int):=by omega
  have bg:=fun z=>FL (l:=y) (i:=i) (x:=z) (by omega)
  rw [<-hd] at bg;have pP:(d+a+c).tmod 1000000000=(d+a+c)%1000000000:=xE (by omega);have hdiv:(d+a+c).tdiv 1000000000=(d+a+c)/1000000000:=xZ (by omega);obtain ⟨z,hz⟩:∃z,z=(d+a+c)%1000000000:=⟨_,rfl⟩;obtain ⟨c',mZ⟩:∃z,z=(d+a+c)/1000000000:=⟨_,rfl⟩;have Wa:z+1000000000*c'=d+a+c:=by omega
  rw [<-hz] at pP;rw [<-mZ] at hdiv;have aP:=fun (hp:Hp) (ct:Nat)=>Cs (hp:=hp) (ct:=ct) (id:=1) (v:=z) (ex:=false) (l:=pre++y++post) (o:=pre.length+i) (by rw [n9];omega)
  have om:=N1 (pre:=pre) (x:=y) (post:=post) (i:=i) z (by omega)
  simp only [go_sem,ya,yh,Jp,H3,show (i:Int)<(n:Int) by omega,ev,fc,wrapN (n:=pre.length+i) (by omega),cW 1 0 (show pre.length+i<M by omega),yd,ey,wrap64 (n:=d+a) (by omega) (by omega),wrap64 (n:=d+a+c) (by omega) (by omega),fM _ _ _ (show (1000000000:Int)≠0 by decide),fw _ _ _ (show (1000000000:Int)≠0 by decide),pP,hdiv,wrap64 (n:=c') (by omega) (by omega),aP,om];refine ⟨_,k-1,rfl,by omega,i+1,c',y.set i z,?_,by omega,by simp [ly],?_,by rw [ady (by omega)];exact ot,⟨by omega,by omega⟩,?_⟩
  ·rw [wrap64 (by omega) (by omega)];simp only [go_sem,ya,yb,an,ak hw.pu,ao _ hw.pu]<;>rfl
  ·rw [tp];exact S4 gy ⟨by omega,by omega⟩
  ·rw [bg,eK,uJ];exact ap1 Wa aR
 ·right
  have:i=n:=by omega
  subst this;rw [yp (show vs.length<=i by omega)] at aR;simp only [go_sem,ya,Jp,H3,show ¬(i:Int)<(i:Int) by omega];exact ⟨_,_,rfl,by simp,_,c,y,rfl,rfl,by simp only [go_sem,ya],by simp only [go_sem,ya],by simp only [go_sem,ya],by simp only [go_sem,ya],by simp only [go_sem,ya],by simp only [go_sem,ya],by simp only [go_sem,ya],by simp only [go_sem,ya],ly,gy,ot,hc,aR⟩
def ap3 {A V t:Nat} {y:List Int} {n:Nat} (hV:0<V) (ly:y.length=n+1) (gy:dg (y.take n)) (h:sv y=(A:Int)-t*V) (h1:A/V<=t) (h2:t<=A/V+1):
  (¬y.getD n 0<0->t=A/V/\sv y=((A%V:Nat):Int))/\(y.getD n 0<0->t=A/V+1/\sv y+V=((A%V:Nat):Int)):=by
 have fu:=xV A V;have hm:=xz A hV;have eK:=NO (l:=y) n;rw [yp (by omega),zY gy] at eK;have KN:=jL gy;have hp:(0:Int)<1000000000^n:=ybG (by decide);generalize y.getD n 0=top at*
 generalize A/V=Q at*
 have hq:t=Q\/t=Q+1:=by omega
 constructor
 ·intro h0;have h3:0<=(1000000000:Int)^n*top:=uz (uK hp) (by omega);rcases hq with rfl | rfl
  ·grind
  ·grind
 ·intro h0;have h3:(1000000000:Int)^n*top<=-(1000000000^n):=by
   have:=vJ (show top<=-1 by omega) (uK hp)
   grind
  rcases hq with rfl | rfl
  ·grind
  ·grind
def aaW {y:List Int} {n:Nat} (ly:y.length=n+1) (gy:dg (y.take n)) (h0:0<=sv y) (h1:sv y<1000000000^n):y.getD n 0=0/\dg y/\sv y=dv y:=by
 have eK:=NO (l:=y) n;rw [yp (by omega),zY gy] at eK;have KN:=jL gy;rw [yQ,xX (by omega)] at KN;have hp:(0:Int)<1000000000^n:=ybG (by decide);have FW:((1000000000^n:Nat):Int)=(1000000000:Int)^n:=by simp
 have aBe:(dv (y.take n):Int)<1000000000^n:=by omega
 have ht:y.getD n 0=0:=by
  generalize y.getD n 0=top at*
  rcases Int.lt_trichotomy top 0 with h | h | h
  ·have:=vJ (show top<=-1 by omega) (uK hp)
   grind
  ·grind
  ·have:=vJ (show 1<=top by omega) (uK hp)
   grind
 have hg:dg y:=by
  have e:y=y.take n++[0]:=by
   have h1:y=y.take n++y.drop n:=(xW n y).symm;have h2:y.drop n=[0]:=by
    rw [yN (by omega),yT (by omega)]
    grind
   grind
  rw [e];exact hJ.2 ⟨gy,jG.2 ⟨by decide,by decide⟩⟩
 exact ⟨ht,hg,zY hg⟩
end
end
section
open Go (IntKind)
def ap4 {l:List Int} {i:Nat} (h:i<l.length):dv (l.drop i)=(l.getD i 0).toNat+1000000000*dv (l.drop (i+1)):=by
 rw [yN h]
 have:l[i]=l.getD i 0:=by simp_all
 rw [this];rfl
def SC (l:List Int) (i:Nat) (h:i<=l.length):dv l=dv (l.take i)+1000000000^i*dv (l.drop i):=by
 conv=>lhs;rw [<-xW i l]
 rw [mh,yQ,xX h]
def ap5 {sx sy sV:Int} {p:Int} {bo t:Int} {yn z:Int} {szy:Int} (h1:sy+t*sV=sx+p*bo) (h2:szy=sy+p*(z-yn)) (h3:z=yn-bo):szy=sx-t*sV:=by grind
section
variable {P:aG} {L:Lib}
def ap6 (rm:Has P L 301 Ad) {w:AV} {vs:List Int} {f:Int} (hw:bl w vs) (gv:dg vs) {n M m:Nat} (lv:vs.length=n) (ew:2<=n) (hnM:n<M) (L5:M<=20000000000) (hm:m=M-n) (eZ:0<vs.getD (n-1) 0) {U0:Nat}:
  ∀k st,(∃(j:Nat) (us qs:List Int),aT [8,9,10,11,12,13] st=⟨[(8,.aC 0 0 1),(9,w),(10,aa n),(11,.aC 1 0 M),(12,.aC 2 0 m),(13,aa ((j:Int)-1))],H3 qs us f,3,0⟩/\j=k/\j<=m/\us.length=M/\qs.length=m/\dg us/\dg qs/\(∀i,i<j->qs.getD i 0=0)/\
    dv us+dv qs*dv vs=U0/\dv (us.drop j)<dv vs)->
   ∃ex st',D P L (.loop [8,9,10,11,12,13] Jq) st=some (ex,st')/\∃tm us qs,st'=⟨tm,H3 qs us f,3,0⟩/\ex= .exit 2/\ah tm 8= .aC 0 0 1/\ah tm 10=aa n/\ah tm 11= .aC 1 0 M/\ah tm 12= .aC 2 0 m/\us.length=M/\qs.length=m/\dg us/\dg qs/\
    dv us+dv qs*dv vs=U0/\dv us<dv vs:=by
 intro dq sq;generalize bw:aT [8,9,10,11,12,13] sq=s0;revert bw s0 sq dq;apply dn;rintro k st ⟨j,us,qs,rfl,rfl,hj,lu,lq,gu,gq,hz,aR,ot⟩
 cases j with
 | zero=>
  right
  simp only [go_sem,ya,Jq,H3,show ¬(0:Int)<=((0:Nat):Int)-1 by omega];exact ⟨_,_,rfl,by simp,_,us,qs,rfl,rfl,by simp only [go_sem,ya],by simp only [go_sem,ya],by simp only [go_sem,ya],by simp only [go_sem,ya],lu,lq,gu,gq,aR,by simpa using ot⟩
 | succ j=>
  left
  obtain ⟨pre,fc⟩:∃p,p=us.take j:=⟨_,rfl⟩;obtain ⟨x,hx⟩:∃p,p=(us.drop j).take (n+1):=⟨_,rfl⟩;obtain ⟨post,gP⟩:∃p,p=us.drop (j+(n+1)):=⟨_,rfl⟩;have lp:pre.length=j:=by rw [fc,yQ];omega
  have lx:x.length=n+1:=by rw [hx,yQ,wi];omega
  have lpo:M=pre.length+(n+1)+post.length:=by rw [lp,gP,wi];omega
  have kA:us=pre++x++post:=by
   rw [fc,hx,gP,<-vG,xF,xW,xW]
  have gpo:dg post:=by
   have:=gu;rw [kA] at this;exact (hJ.1 this).2
  have gpx:=by have:=gu;rw [kA] at this;exact (hJ.1 this).1
  have gx:dg x:=(hJ.1 gpx).2;have Vd:dg pre:=(hJ.1 gpx).1;have hA:=ap4 (l:=us) (i:=j) (by omega);have hgj:=iD gu j;have G5:us.drop j=x++post:=by rw [gP,hx,<-vG,xW]
  have AM:dv (us.drop j)=dv x+1000000000^(n+1)*dv post:=by rw [G5,mh,lx]
  have LM:=jL gv;rw [lv] at LM;have a7:dv (us.drop j)<1000000000*dv vs:=by omega
  have hp0:dv post=0:=by
   rcases xt (dv post) with e | e
   ·exact e
   ·have h1:=yU (1000000000^(n+1)) e;rw [yh,xk] at h1;rw [xk] at AM;omega
  rw [hp0,xI,y7] at AM;have L7:=fun (l:List Int) (hl:dg l) (i:Nat)=>iD hl i
  obtain ⟨v1,fa⟩:∃v:Nat,vs.getD (n-1) 0=v:=⟨(vs.getD (n-1) 0).toNat,by have:=L7 vs gv (n-1);omega⟩;obtain ⟨v2,qj⟩:∃v:Nat,vs.getD (n-2) 0=v:=⟨(vs.getD (n-2) 0).toNat,by have:=L7 vs gv (n-2);omega⟩;obtain ⟨u0,Cl⟩:∃v:Nat,x.getD n 0=v:=⟨(x.getD n 0).toNat,by have:=L7 x gx n;omega⟩;obtain ⟨u1,Cm⟩:∃v:Nat,x.getD (n-1) 0=v:=⟨(x.getD (n-1) 0).toNat,by have:=L7 x gx (n-1);omega⟩;obtain ⟨u2,zo⟩:∃v:Nat,x.getD (n-2) 0=v:=⟨(x.getD (n-2) 0).toNat,by have:=L7 x gx (n-2);omega⟩;have hl:gm x vs n v1 v2 u0 u1 u2:=⟨ew,by omega,lx,lv,gx,gv,fa,qj,Cl,Cm,zo,by omega,by rw [<-AM];exact a7⟩
  have Px:=hl.digit;have rF:0<dv vs:=by omega
  have pP:=xz (dv x) rF;obtain ⟨t,e1,ht1,Wv,ht3⟩:=auz (P:=P) (L:=L) rm hw hl (pre:=pre) (post:=post) (qs:=qs) (f:=f) (M:=M) (by omega) (by omega);rw [<-kA,lp] at e1;have Xg:dv us=dv pre+1000000000^j*dv x:=by
   have:=SC us j (by omega)
   rw [AM,<-fc] at this;exact this
  have Ve:∀y,dv (pre++y++post)=dv pre+1000000000^j*dv y:=fun y=>by
   rw [xF,mh,mh,hp0,xI,y7,lp]
  have lR:=ZU (b:=0) Xg aR;have zp:below 3 w:=qF hw.pu;have bg:=FL (l:=qs) (i:=j) (x:=((dv x/dv vs:Nat):Int)) (by omega);have gq':dg (qs.set j ((dv x/dv vs:Nat):Int)):=NU gq ⟨ta _,ub.2 Px⟩;rw [hz j (by omega),Int.sub_zero,zY gq,zY gq'] at bg;have bg:dv (qs.set j ((dv x/dv vs:Nat):Int))=dv qs+1000000000^j*(dv x/dv vs):=by
   have FW:((1000000000^j*(dv x/dv vs):Nat):Int)=(1000000000:Int)^j*((dv x/dv vs:Nat):Int):=by rw [xL];simp
   rw [<-FW] at bg;exact tX (by rw [tT,tT,bg,yaB])
  have fin:∀(s':St) (x':List Int),aT [8,9,10,11,12,13] s'=⟨[(8,.aC 0 0 1),(9,w),(10,aa n),(11,.aC 1 0 M),(12,.aC 2 0 m),(13,aa ((j:Int)-1))],H3 (qs.set j ((dv x/dv vs:Nat):Int)) (pre++x'++post) f,3,0⟩->x'.length=n+1->dg x'->sv x'=((dv x%dv vs:Nat):Int)->
    ∃(j':Nat) (us qs:List Int),aT [8,9,10,11,12,13] s'=⟨[(8,.aC 0 0 1),(9,w),(10,aa n),(11,.aC 1 0 M),(12,.aC 2 0 m),(13,aa ((j':Int)-1))],H3 qs us f,3,0⟩/\j'=j/\j'<=m/\us.length=M/\qs.length=m/\dg us/\dg qs/\(∀i,i<j'->qs.getD i 0=0)/\dv us+dv qs*dv vs=U0/\dv (us.drop j')<dv vs:=fun s' x' hc Xf QD LQ=>by
   have age:dv x'=dv x%dv vs:=by rw [zY QD] at LQ;exact tX LQ
   refine ⟨j,_,_,hc,rfl,by omega,by rw [n9,Xf];omega,by simp [lq],hJ.2 ⟨hJ.2 ⟨Vd,QD⟩,gpo⟩,gq',fun i hi=>by rw [ady (by omega)];exact hz i (by omega),?_,?_⟩
   ·rw [Ve,age,bg];exact lR
   ·rw [xF,List.drop_left' lp,mh,hp0,xI,y7,age];exact pP
  have agf:=fun (z:Int) (hp:Hp) (ct:Nat)=>Cs (hp:=hp) (ct:=ct) (id:=2) (v:=z) (ex:=true) (l:=qs) (o:=j) (by omega)
  have svx:=zY gx;have svv:=zY gv;simp only [H3] at e1;simp only [go_sem,ya,Jq,H3,show ((j+1:Nat):Int)-1=(j:Int) by omega,show (0:Int)<=(j:Int) by omega,aeZ,e1];generalize nc:D P L (.loop [8,9,10,11,12,13,14,15,16] Fv) _=qq;obtain ⟨ex,s,rfl,tm,bo,y,rfl,rfl,t8,t9,t10,t11,t12,t13,t14,t15,ly,gy,jo,hv⟩:=bD nc (ap0 (P:=P) (L:=L) (x:=x) (pre:=pre) (post:=post) (qs:=qs) (f:=f) (m:=m) (M:=M) hw lv lpo (by omega) gv (t:=t) (by omega) n) ⟨0,0,x,by
   rw [kA,lp]
   simp only [go_sem,ya,yb,an,ak hw.pu,ao _ hw.pu]<;>rfl,by omega,lx,gx,by omega,by simp [sv]⟩
  rw [lp] at t13;have hyn:=iD gy n;have XG:=sC (l:=pre++y++post) (o:=pre.length+n) (by rw [n9];omega);rw [Bl (by omega),lp] at XG;obtain ⟨z,XH⟩:∃z,z=y.getD n 0-bo:=⟨_,rfl⟩;have F2:=fun (hp:Hp) (ct:Nat)=>Cs (hp:=hp) (ct:=ct) (id:=1) (v:=z) (ex:=false) (l:=pre++y++post) (o:=j+n) (by rw [n9];omega)
  have om:=N1 (pre:=pre) (x:=y) (post:=post) (i:=n) z (by omega);rw [lp] at om;rw [om] at F2;have lW:=FL (l:=y) (i:=n) (x:=z) (by omega);have OL:=ap5 hv lW XH;have Cj:(y.set n z).length=n+1:=by simp [ly]
  have Er:dg ((y.set n z).take n):=by
   have:(y.set n z).take n=y.take n:=by rw [tp,tk (by simp;omega)]
   rw [this];exact CU gy n
  rw [svx,svv] at OL;obtain ⟨s0,s1⟩:=ap3 rF Cj Er OL Wv ht3;have eg:(y.set n z).getD n 0=z:=alF (by omega);rw [eg] at s0 s1;have XI:=sC (l:=pre++y.set n z++post) (o:=pre.length+n) (by rw [n9];omega);rw [Bl (by omega),lp,eg] at XI;generalize y.set n z=y1 at*
  have hpn:((10^9:Int))=1000000000:=by decide
  by_cases fJ:z<0
  ·obtain ⟨f1,f2⟩:=s1 fJ
   simp only [go_sem,ya,yb,yh,an,ak hw.pu,ao _ hw.pu,t8,t9,t10,t11,t12,t13,t14,t15,show (j:Int)+(n:Int)=((j+n:Nat):Int) from rfl,wrapN (n:=j+n) (by omega),cW 1 0 (show j+n<M by omega),yd,XG,<-XH,wrap64 (n:=z) (by omega) (by omega),F2,XI,fJ];generalize DX:D P L (.loop [8,9,10,11,12,13,14,19,20] Jp) _=W9;obtain ⟨ex,s,rfl,sT,c,y2,rfl,rfl,t8,t9,t10,t11,t12,t13,t14,t19,Xc,QB,ae4,hc,cY⟩:=bD DX (ap2 (P:=P) (L:=L) (y0:=y1) (pre:=pre) (post:=post) (qs:=qs) (f:=f) (m:=m) (M:=M) (t:=(t:Int)-1) (top:=z) hw lv lpo (by omega) gv n) ⟨0,0,y1,by
    rw [lp,wrap64 (n:=(t:Int)-1) (by omega) (by omega)]
    simp only [go_sem,ya,yb,an,ak hw.pu,ao _ hw.pu]<;>rfl,by omega,Cj,Er,eg,by omega,by simp [sv]⟩
   rw [lp] at t13;have agh:=sC (l:=pre++y2++post) (o:=pre.length+n) (by rw [n9];omega);rw [Bl (by omega),lp,ae4] at agh;have Pv:=fun (hp:Hp) (ct:Nat)=>Cs (hp:=hp) (ct:=ct) (id:=1) (v:=z+c) (ex:=false) (l:=pre++y2++post) (o:=j+n) (by rw [n9];omega)
   have Oq:=N1 (pre:=pre) (x:=y2) (post:=post) (i:=n) (z+c) (by omega);rw [lp] at Oq;rw [Oq] at Pv;have AD:=FL (l:=y2) (i:=n) (x:=z+c) (by omega);rw [ae4,show z+c-z=c by omega,cY,svv,f2] at AD;have LO:(y2.set n (z+c)).length=n+1:=by simp [Xc]
   have QC:dg ((y2.set n (z+c)).take n):=by
    have:(y2.set n (z+c)).take n=y2.take n:=by rw [tp,tk (by simp;omega)]
    rw [this];exact QB
   have XJ:((dv x%dv vs:Nat):Int)<1000000000^n:=by
    have FW:((1000000000^n:Nat):Int)=(1000000000:Int)^n:=by simp
    rw [<-FW];omega
   obtain ⟨g1,g2,g3⟩:=aaW LO QC (by rw [AD];omega) (by rw [AD];exact XJ)
   generalize y2.set n (z+c)=y3 at*
   have ft:(t:Int)-1=((dv x/dv vs:Nat):Int):=by rw [f1];omega
   simp only [go_sem,ya,yb,yh,an,ak hw.pu,ao _ hw.pu,t8,t9,t10,t11,t12,t13,t14,t19,show (j:Int)+(n:Int)=((j+n:Nat):Int) from rfl,wrapN (n:=j+n) (by omega),cW 1 0 (show j+n<M by omega),yd,agh,wrap64 (n:=z+c) (by omega) (by omega),Pv,cW 2 0 (show j<m by omega),agf];rw [ft];refine ⟨_,j,rfl,by omega,fin _ y3 ?_ LO g2 AD⟩;rw [wrap64 (by omega) (by omega)];simp only [go_sem,ya,yb,an,ak hw.pu,ao _ hw.pu]<;>rfl
  ·obtain ⟨f1,f2⟩:=s0 fJ;have XJ:((dv x%dv vs:Nat):Int)<1000000000^n:=by
    have FW:((1000000000^n:Nat):Int)=(1000000000:Int)^n:=by simp
    rw [<-FW];omega
   obtain ⟨g1,g2,g3⟩:=aaW Cj Er (by rw [f2];omega) (by rw [f2];exact XJ)
   simp only [go_sem,ya,yb,yh,an,ak hw.pu,ao _ hw.pu,t8,t9,t10,t11,t12,t13,t14,t15,show (j:Int)+(n:Int)=((j+n:Nat):Int) from rfl,wrapN (n:=j+n) (by omega),cW 1 0 (show j+n<M by omega),yd,XG,<-XH,wrap64 (n:=z) (by omega) (by omega),F2,XI,fJ,cW 2 0 (show j<m by omega),agf];rw [f1];refine ⟨_,j,rfl,by omega,fin _ y1 ?_ Cj g2 f2⟩;rw [wrap64 (by omega) (by omega)];simp only [go_sem,ya,yb,an,ak hw.pu,ao _ hw.pu]<;>rfl
end
end
section
open Go (IntKind)
section
variable {P:aG} {L:Lib}
def asJ (h:Has P L 292 Ac) {n:Nat} (hn:n<1000000000):ae P L 292 [aa n,aa 9] (.str (iU 9 n)):=by
 have key:=eF (P:=P) (L:=L) (live:=[0,1,5]) (a:=n5)
  (I:=fun k st=>∃(m:Nat) (s:List Nat),st=⟨[(0,aa m),(1,aa 9),(5,.str s)],[],0,0⟩/\s.length+k=9/\m<10^k/\iU 9 n=iU k m++s)
  (Q:=fun ex st=>∃tm ct,st=⟨tm,[],ct,0⟩/\ex= .exit 0/\ah tm 5= .str (iU 9 n)) ?_
 ·unfold ae;rw [ay h];simp only [go_sem,Ac];generalize hq:D P L (.loop [0,1,5] n5) _=q;obtain ⟨ex,st,rfl,tm,ct,rfl,rfl,h2⟩:=bD hq (key 9) ⟨n,[],by simp only [go_sem,ya,an]<;>rfl,rfl,by omega,by simp⟩
  simp only [go_sem,an,h2]
 ·rintro k st ⟨m,s,rfl,hk,hm,hs⟩
  cases k with
  | zero=>
   right
   have QI:m=0:=by simpa using hm
   subst QI;simp only [go_sem,ya,n5,show ¬(0:Int)<((0:Nat):Int) by omega,show ¬((s.length:Nat):Int)<9 by omega];refine ⟨_,_,rfl,by simp,_,_,rfl,rfl,?_⟩;rw [hs];rfl
  | succ k=>
   left
   have hr:((m:Int)).tmod 10=((m%10:Nat):Int):=by rw [xE (by omega)];rfl
   have hq:((m:Int)).tdiv 10=((m/10:Nat):Int):=by rw [xZ (by omega)];rfl
   have hd:=Y5 (r:=m%10) (by omega);have K9:m<10000000000:=yP hm (by simpa using xD (show 0<10 by decide) (show k+1<=10 by omega));have fin:∃s',D P L n5 ⟨[(0,aa m),(1,aa 9),(5,.str s)],[],0,0⟩=some (.normal,s')/\aT [0,1,5] s'=⟨[(0,aa (m/10:Nat)),(1,aa 9),(5,.str ([48+m%10]++s))],[],0,0⟩:=by
    by_cases hc:(0:Int)<m
    ·simp only [go_sem,ya,yb,n5,hc,fM _ _ _ (show (10:Int)≠0 by decide),fw _ _ _ (show (10:Int)≠0 by decide),hr,hq,wrapN (n:=m%10+1) (by omega),wrap64 (n:=((m/10:Nat):Int)) (by omega) (by omega),eR,dG,show ((m%10:Nat):Int)+1=((m%10+1:Nat):Int) from rfl,hd,gN (a:=[48+m%10]) (b:=s) (by simp;omega)];exact ⟨_,rfl,by simp only [go_sem,ya,an]⟩
    ·simp only [go_sem,ya,yb,n5,hc,show ((s.length:Nat):Int)<9 by omega,fM _ _ _ (show (10:Int)≠0 by decide),fw _ _ _ (show (10:Int)≠0 by decide),hr,hq,wrapN (n:=m%10+1) (by omega),wrap64 (n:=((m/10:Nat):Int)) (by omega) (by omega),eR,dG,show ((m%10:Nat):Int)+1=((m%10+1:Nat):Int) from rfl,hd,gN (a:=[48+m%10]) (b:=s) (by simp;omega)];exact ⟨_,rfl,by simp only [go_sem,ya,an]⟩
   obtain ⟨s',f1,f2⟩:=fin;exact ⟨s',k,f1,by omega,m/10,_,f2,by simp;omega,by rw [xk] at hm;omega,by rw [hs];simp [iU]⟩
end
end
section
open Go (IntKind)
def last_pos {l:List Int} (hd:dg l) (hn:nz l) (h:0<l.length):0<l.getD (l.length-1) 0:=by
 rcases snoc l with rfl | ⟨m,a,rfl⟩
 ·grind
 ·have e:(m++[a]).getD ((m++[a]).length-1) 0=a:=by simp_all
  have ha:=jG.1 (hJ.1 hd).2;by_cases h0:a=0
  ·subst h0
   have:=MX m
   have e:=congrArg List.length hn;rw [Iy] at e
   grind
  ·omega
section
variable {P:aG} {L:Lib}
def asK (ol:Has P L 292 Ac) {neg:Bool} {w:AV} {l:List Int} (hw:bl w l) (hd:dg l) (hn:nz l) (hl:l.length<=20000000000):
  ∀k s,(∃(j:Nat) (t:List Nat),aT [1,3,4] s=⟨[(1,.ptr 0 0),(3,.str t),(4,aa ((j:Int)-1))],[(0,.cells true true true 2 [.bool neg,w])],1,0⟩/\j=k/\j<l.length/\0<dv (l.drop j)/\t=aB (dv (l.drop j))/\t.length<=9*(l.length-j))->
   ∃ex s',D P L (.loop [1,3,4] Jn) s=some (ex,s')/\∃tm,s'=⟨tm,[(0,.cells true true true 2 [.bool neg,w])],1,0⟩/\ex= .exit 0/\ah tm 1= .ptr 0 0/\ah tm 3= .str (aB (dv l))/\(aB (dv l)).length<=180000000000:=by
 intro dq sq;generalize bw:aT [1,3,4] sq=s0;revert bw s0 sq dq;apply dn;rintro k s ⟨j,t,rfl,rfl,hj,sO,ht,XA⟩
 cases j with
 | zero=>
  right
  rw [yg] at ht;simp only [go_sem,ya,Jn,show ¬(0:Int)<=((0:Nat):Int)-1 by omega];exact ⟨_,_,rfl,by simp,_,rfl,rfl,by simp only [go_sem,ya],by rw [<-ht];simp only [go_sem,ya],by rw [<-ht];omega⟩
 | succ i=>
  left
  have hi:i<l.length:=by omega
  obtain ⟨x,hx⟩:∃x,x=l.getD i 0:=⟨_,rfl⟩;have e1:=qY hw hi;have gx:=iD hd i;rw [<-hx] at e1 gx;obtain ⟨m,rfl⟩:∃m:Nat,x=m:=⟨x.toNat,by omega⟩;have e2:=asJ ol (n:=m) (by omega);unfold ae at e2;have hlp:=Sy 9 m;have jm:dv (l.drop i)=dv (l.drop (i+1))*10^9+m:=by
   have:l.drop i=(m:Int)::l.drop (i+1):=by
    rw [yN hi,hx];simp [xK,wo hi]
   rw [this];simp only [dv,xp];omega
  have awE:aB (dv (l.drop i))=t++iU 9 m:=by
   rw [jm,Nj 9 _ m sO (by omega),ht]
  simp only [go_sem,ya,Jn,show ((i+1:Nat):Int)-1=(i:Int) by omega,show (0:Int)<=(i:Int) by omega,aV,yd,bX,e1,e2,gN (a:=t) (b:=iU 9 m) (by omega)];refine ⟨_,i,rfl,by omega,i,t++iU 9 m,?_,rfl,by omega,by omega,awE.symm,by simp;omega⟩;rw [wrap64 (by omega) (by omega)];simp only [go_sem,ya,yb,an]<;>rfl
def PH (h:Has P L 282 Ko) (ol:Has P L 292 Ac) {v:AV} {n:Int} {K:Nat} (hK:K<=18000000000) (hv:ja v n) (hn:n.natAbs<1000000000^K):ae P L 282 [v] (.str (aY n))/\(aY n).length<=180000000001:=by
 obtain ⟨w,l,rfl,hw,hd,hz,qv⟩:=hv;have hl:=xn (iE hd hz (by rw [qv];exact hn)) hK
 by_cases h0:l=[]
 ·subst h0;have mU:n=0:=by simp [dv] at qv;omega
  subst mU;refine ⟨?_,by decide⟩;unfold ae;rw [ay h];simp only [go_sem,ya,yb,Ko,aK,hw.len,hw.pu,hw.one,aV,yd,bX,yK,show ((0:Nat):Int)=(0:Int) from rfl,ym];rfl
 ·have sO:0<l.length:=uO.2 h0;obtain ⟨x,hx⟩:∃x,x=l.getD (l.length-1) 0:=⟨_,rfl⟩;have e1:=qY hw (show l.length-1<l.length by omega);have gx:=iD hd (l.length-1);have gp:=last_pos hd hz sO;rw [<-hx] at e1 gx gp;obtain ⟨m,rfl⟩:∃m:Nat,x=m:=⟨x.toNat,by omega⟩;have e2:=U7 ol (n:=m) (by omega);have jm:dv (l.drop (l.length-1))=m:=by
   rw [yN (show l.length-1<l.length by omega),yT (by omega)]
   have:l[l.length-1]=(m:Int):=by rw [hx];simp [xK,wo (show l.length-1<l.length by omega)]
   simp [dv,this]
  have h9:(aB m).length<=9:=qO (k:=8) (by omega);have fin:∀neg:Bool,bQ P L (D P L) 282 [.agg [.bool neg,w]]=some (.str ((if neg=true then [45] else [])++aB (dv l)))/\(aB (dv l)).length<=180000000000:=fun neg=>by
   rw [ay h]
   simp only [go_sem,ya,yb,Ko,aK,hw.len,hw.pu,hw.one,aV,yd,bX,show ¬(l.length:Int)=0 by omega,show (l.length:Int)-1=((l.length-1:Nat):Int) by omega,wrapN (n:=l.length-1) (by omega),e1,e2];generalize hq:D P L (.loop [1,3,4] Jn) _=q;obtain ⟨ex,s,rfl,tm,rfl,rfl,t1,t3,hlen⟩:=bD hq (asK (P:=P) (L:=L) ol (neg:=neg) hw hd hz (by omega) (l.length-1)) ⟨l.length-1,aB m,by
    rw [show (l.length:Int)-2=((l.length-1:Nat):Int)-1 by omega,wrap64 (by omega) (by omega)]
    simp only [go_sem,ya,yb,an]<;>rfl,rfl,by omega,by rw [jm];omega,by rw [jm],by omega⟩
   refine ⟨?_,hlen⟩
   cases neg with
   | true=>
    simp only [go_sem,ya,an,t1,t3,aV,yd,gN (a:=[45]) (b:=aB (dv l)) (by simp;omega),xm]
   | false=>
    simp only [go_sem,ya,an,t1,t3,aV,yd];rfl
  obtain ⟨f1,f2⟩:=fin (decide (n<0));rw [qv] at f1 f2;simp only [vd] at f1;rw [nW] at f1;refine ⟨f1,?_⟩;rw [<-nW]
  split<;>simp<;>omega
structure Rb (P:aG) (L:Lib):Prop where
 awF:Has P L 262 Ki
 Ag:Has P L 272 Kn
 agi:Has P L 274 O6
 agj:Has P L 275 O7
 awG:Has P L 277 DL
 awH:Has P L 280 oh
 agk:Has P L 281 O9
 PI:Has P L 282 Ko
 agl:Has P L 288 Pc
 KP:Has P L 289 sF
 Ah:Has P L 290 Gg
 U8:Has P L 291 Kr
 ol:Has P L 292 Ac
 lC:Has P L 293 BG
 ij:Has P L 294 BH
 PF:Has P L 295 Ks
 oC:Has P L 296 sG
 agm:Has P L 298 Pd
 pQ:Has P L 299 BI
 cJ:Has P L 300 lS
 mR:Has P L 302 sH
structure Ras (P:aG) (L:Lib):Prop extends Rb P L where
 agn:Has P L 264 Kj
 awI:Has P L 268 Kl
 awJ:Has P L 271 UM
 awK:Has P L 276 pM
 KQ:Has P L 278 O8
 awL:Has P L 279 Gf
 PG:Has P L 297 Kt
structure Ra (P:aG) (L:Lib):Prop extends Ras P L where
 ago:Has P L 267 Kk
end
end
section
open Go (IntKind)
section
variable {P:aG} {L:Lib}
def ap7 {v w:AV} {a vs:List Int} {f:Int} (hv:bl v a) (hw:bl w vs) {n:Nat} (la:a.length<=9000000000) {A:Nat}:
  ∀k st,(∃us:List Int,aT [0,8,9,10,11] st=⟨[(0,v),(8,.aC 0 0 1),(9,w),(10,aa n),(11,.aC 1 0 us.length)],[(1,.cells true true false 1 (us.map aa)),(0,.cells false true true 1 [aa f])],2,0⟩/\us.length+k=a.length+1/\dg us/\dv us=A)->
   ∃ex st',D P L (.loop [0,8,9,10,11] Jo) st=some (ex,st')/\∃tm us,st'=⟨tm,[(1,.cells true true false 1 (us.map aa)),(0,.cells false true true 1 [aa f])],2,0⟩/\ex= .exit 0/\ah tm 8= .aC 0 0 1/\ah tm 9=w/\ah tm 10=aa n/\ah tm 11= .aC 1 0 (a.length+1)/\us.length=a.length+1/\dg us/\dv us=A:=by
 intro dq sq;generalize bw:aT [0,8,9,10,11] sq=s0;revert bw s0 sq dq;apply dn;rintro k st ⟨us,rfl,hk,gu,aR⟩;have ea:((a.length:Nat):Int)+1=((a.length+1:Nat):Int):=rfl;by_cases hi:us.length<a.length+1
 ·left
  simp only [go_sem,ya,yb,yi,yh,Jo,hv.len,ea,wrapN (n:=a.length+1) (by omega),show ((us.length:Nat):Int)<((a.length+1:Nat):Int) by omega]
  rw [fV (ex:=false) (pu:=true) (cs:=us.map aa) (by simp only [go_sem,ya]) (by simp) (by omega) (by omega) (by decide) (by simp only [go_sem])];refine ⟨_,k-1,rfl,by omega,us++[0],?_,by simp;omega,hJ.2 ⟨gu,jG.2 (by decide)⟩,by rw [mh];simp [dv,aR]⟩;rw [xq,yW];simp only [go_sem,ya,yb,an,ak hv.pu,ao _ hv.pu,ak hw.pu,ao _ hw.pu]<;>rfl
 ·right
  have hl:us.length=a.length+1:=by omega
  rw [hl]
  simp only [go_sem,ya,Jo,hv.len,ea,wrapN (n:=a.length+1) (by omega),show ¬((a.length+1:Nat):Int)<((a.length+1:Nat):Int) by omega];exact ⟨_,_,rfl,by simp,_,us,rfl,rfl,by simp only [go_sem,ya],by simp only [go_sem,ya],by simp only [go_sem,ya],by simp only [go_sem,ya],hl,gu,aR⟩
end
def adz:∀l:List Int,bO (l.map aa)=true
 | []=>rfl
 | a::r=>by rw [yV,ZP,adz r];rfl
def adA:∀l:List Int,aH (l.map aa)=true
 | []=>rfl
 | a::r=>by rw [yV,aH,adA r];rfl
def ap8 {hp:Hp} {ct:Nat} {e:Bool} {us:List Int} {o:Obj} (h:us.length<=100000000000):
  DS ((1,.cells true true true 1 [])::(0,o)::hp) ct 1 8 (.aC 1 0 0) (qQ ((1,.cells true true true 1 [])::(0,o)::hp) 1 (.aJ e us.length (us.map aa)))=some (.aC ct 0 us.length,(ct,.cells true true false 1 (us.map aa))::eG ((1,.cells true true true 1 [])::(0,o)::hp) 1,ct+1):=by
 have h1:qQ ((1,.cells true true true 1 [])::(0,o)::hp) 1 (.aJ e us.length (us.map aa))=some (us.length,us.map aa):=by
  simp [qQ]
 rw [h1,fV (cs:=[]) (pu:=true) (ex:=true) rfl (by simp) (by omega) (by omega) (by decide) (adz us),adA,yd];rfl
def asL {l:List Int} (hd:dg l) (hn:nz l) (h:0<l.length):1000000000^(l.length-1)<=dv l:=Oi hn hd (fun e=>by subst e;simp at h)
def anM {n top f V:Nat} (hf:f=1000000000/(top+1)) (ht0:0<top) (ht:top<1000000000) (h1:V<1000000000^(n-1)*(top+1)) (hn:0<n):0<f/\f<1000000000/\V*f<1000000000^n:=by
 have h2:f*(top+1)<=1000000000:=by rw [hf];exact Nat.div_mul_le_self _ _
 have h3:0<f:=by rw [hf];exact Nat.div_pos (by omega) (by omega)
 refine ⟨h3,?_,?_⟩
 ·have:=yU f (show 2<=top+1 by omega)
  omega
 ·have e1:=wM h1 h3;have e2:=yU (1000000000^(n-1)) h2;rw [<-xk,show (n-1).succ=n by omega] at e2
  grind
section
variable {P:aG} {L:Lib}
def asM (h:Has P L 289 sF) (lC:Has P L 293 BG) (pQ:Has P L 299 BI) (cJ:Has P L 300 lS) (rm:Has P L 301 Ad) {v w:AV} {a b:List Int} (hv:bl v a) (hw:bl w b) (ha:dg a) (hb:dg b) (na:nz a) (nb:nz b) (la:a.length<=8000000000) (lb:2<=b.length) (ec:ae P L 296 [v,w] (aa (dR (dv a) (dv b)))) (hc:dv b<=dv a):
  ∃q r lq lr,ae P L 289 [v,w] (.au [q,r])/\bl q lq/\bl r lr/\dg lq/\nz lq/\dg lr/\nz lr/\dv lq=dv a/dv b/\dv lr=dv a%dv b:=by
 have ez:¬dR (dv a) (dv b)<0:=by unfold dR;rw [yA (by omega)];split<;>decide
 have auA:=asL hb nb (by omega);have hba:b.length<=a.length:=by
  have:=jL ha
  have h1:1000000000^(b.length-1)<1000000000^a.length:=by omega
  have:=(tr (show 1<1000000000 by decide)).1 h1
  omega
 obtain ⟨n,hn⟩:∃n,n=b.length:=⟨_,rfl⟩;have awM:=iD hb (n-1);have Bx:=last_pos hb nb (by omega);rw [<-hn] at Bx;obtain ⟨top,ot⟩:∃v:Nat,b.getD (n-1) 0=v:=⟨(b.getD (n-1) 0).toNat,by omega⟩;have agp:=qY hw (i:=n-1) (by omega);rw [ot] at awM Bx agp;have hbt:=pn (l:=b) (n-1);rw [show n-1+1=n by omega,yp (by omega),ot,xp] at hbt;have auB:=jL (CU hb (n-1));rw [yQ,xX (by omega)] at auB;obtain ⟨f,hf⟩:∃f,f=1000000000/(top+1):=⟨_,rfl⟩;obtain ⟨EC,hfB,hfV⟩:=anM (n:=n) (V:=dv b) hf (by omega) (by omega) (by rw [xA,yh];omega) (by omega);have hIf:bl (.aJ true 1 [aa f]) [(f:Int)]:=fy true [(f:Int)];have gf:dg [(f:Int)]:=jG.2 (by omega);have vf:dv [(f:Int)]=f:=by simp [dv]
 obtain ⟨v',vs,e1,eX,XK,Et,LR,zq⟩:=VB lC cJ hw hIf hb gf (by omega) (by simp);obtain ⟨u',Ct,e2,jq,Eo,G6,nus,L8⟩:=VB lC cJ hv hIf ha gf (by omega) (by simp);rw [vf] at zq L8;have rF:0<dv b:=by have:=Nat.pow_pos (n:=b.length-1) (show 0<1000000000 by decide);omega
 have AN:vs.length=n:=by
  have h1:vs.length<=n:=iE Et LR (by rw [zq];exact hfV)
  have h2:dv b<=dv vs:=by rw [zq];exact Nat.le_mul_of_pos_right _ EC
  have h3:=jL Et;have h4:1000000000^(n-1)<1000000000^vs.length:=by rw [hn];omega
  have:=(tr (show 1<1000000000 by decide)).1 h4
  omega
 have QE:Ct.length<=a.length+1:=by
  refine iE G6 nus ?_;rw [L8,xk];exact tB (jL ha) hfB
 have agq:0<Ct.length:=by
  rcases xt Ct.length with e | e
  ·have h1:0<dv a*f:=ybi (by omega) EC;rw [yD e] at L8;simp only [dv] at L8;omega
  ·exact e
 have eZ:0<vs.getD (n-1) 0:=by
  have:=last_pos Et LR (by omega)
  rwa [AN] at this
 obtain ⟨m,hm⟩:∃m,m=a.length+1-n:=⟨_,rfl⟩;have cM:∀ct:Nat,Af ct 1 8 [.int .i64 0] (some m) (some m)=some (.aC ct 0 m,.cells true true true 1 ((yG m (0:Int)).map aa)):=fun ct=>by
  rw [Jy (sz:=1) (by omega) (by omega) (by rfl) (by rfl),RJ];rfl
 obtain ⟨e,rfl⟩:∃e,u'= .aJ e Ct.length (Ct.map aa):=by
  rcases jq with ⟨rfl,h0⟩ | ⟨e,rfl⟩
  ·rw [List.map_eq_nil_iff] at h0;rw [h0] at agq;simp at agq
  ·exact ⟨e,by rw [yL]⟩
 have Uh:∀us:List Int,us.length=a.length+1->dv us=dv a*f->dv (us.drop m)<dv vs:=fun us hl hd=>by
  have e1:=SC us m (by omega);have e2:=jL ha;have e3:=wM e2 EC;have e4:1000000000^a.length=1000000000^m*1000000000^(n-1):=by rw [<-wB];congr 1;omega
  rw [<-hd,e4,xr] at e3;have e5:1000000000^m*dv (us.drop m)<1000000000^m*(1000000000^(n-1)*f):=by omega
  refine yP (Nat.lt_of_mul_lt_mul_left e5) ?_;rw [zq,hn];exact yX _ auA
 have jh:∃us qs,(us.length=a.length+1/\qs.length=m/\dg us/\dg qs/\dv us+dv qs*dv vs=dv a*f/\dv us<dv vs)/\
   ∃q1 r1 lr,bl q1 (eb qs)/\bl r1 lr/\dg lr/\nz lr/\dv lr=dv (us.take n)/f/\ae P L 289 [v,w] (.au [q1,r1]):=by
  unfold ae at ec e1 e2;unfold ae;rw [ay h];have KH:IntKind.wrap .i64 ((1000000000:Int).tdiv ((top+1:Nat):Int))=(f:Int):=by
   rw [xZ (by decide),show (1000000000:Int)/((top+1:Nat):Int)=((1000000000/(top+1):Nat):Int) from rfl,<-hf,wrap64 (by omega) (by omega)]
  simp only [go_sem,ya,yb,yt,yi,yh,sF,hv.af,hw.len,hw.af,ec,ez,show ¬(n:Int)=1 by omega,<-hn,show (n:Int)-1=((n-1:Nat):Int) by omega,wrapN (n:=n-1) (by omega),agp,show ((top:Nat):Int)+1=((top+1:Nat):Int) from rfl,wrapN (n:=top+1) (by omega),fw _ _ _ (show ((top+1:Nat):Int)≠0 by omega),KH,e1,XK,eX.len,AN,e2,Eo,ap8 (us:=Ct) (e:=e) (by omega)];generalize bw:D P L (.loop [0,8,9,10,11] Jo) _=q0;obtain ⟨ex,st,rfl,tm,us,rfl,rfl,t8,t9,t10,t11,lu,gu,vu⟩:=bD bw (ap7 (P:=P) (L:=L) (f:=(f:Int)) (n:=n) (A:=dv a*f) hv eX (by omega) (a.length+1-Ct.length)) ⟨Ct,by
   simp only [go_sem,ya,yb,an,ak hv.pu,ao _ hv.pu,ak eX.pu,ao _ eX.pu]<;>rfl,by omega,G6,L8⟩
  have em:((a.length+1:Nat):Int)-(n:Int)=(m:Int):=by omega
  have em1:(m:Int)-1=((m-1:Nat):Int):=by omega
  simp only [go_sem,ya,yb,an,ak eX.pu,ao _ eX.pu,t8,t9,t10,t11,em,wrapN (n:=m) (by omega),cM,em1,wrapN (n:=m-1) (by omega)];generalize fq:D P L (.loop [8,9,10,11,12,13] Jq) _=q1;obtain ⟨ex,st,rfl,sT,Cu,qs,rfl,rfl,t8,t10,t11,t12,lu1,LV,gu1,gq1,aR,a7⟩:=bD fq (ap6 (P:=P) (L:=L) rm (f:=(f:Int)) eX Et AN (by omega) (show n<a.length+1 by omega) (by omega) (by omega) eZ (U0:=dv a*f) m) ⟨m,us,yG m 0,by
   rw [show ((m-1:Nat):Int)=(m:Int)-1 by omega]
   simp only [go_sem,ya,yb,an,ak eX.pu,ao _ eX.pu]<;>rfl,rfl,yr _,lu,by simp,gu,aaB m,fun i _=>Zf m i,by rw [aaA,Nat.zero_mul,y7,vu],Uh us lu vu⟩
  have iV:∀(hp:Hp) tm (y:X),az hp 1=some (.cells true true false 1 (Cu.map aa))->cP tm (a.length+1) (some y)=some n->fh hp (.sl 1) (.aC 1 0 (a.length+1)) tm none (some y)=some (.aC 1 0 n):=fun hp tm y h1 h2=>aaJ h1 h2 (by omega) (by omega)
  obtain ⟨e',LU⟩:∃e',∀hp:Hp,lU 0 n (some (false,1,Cu.map aa,hp))=some (.aJ e' n ((Cu.take n).map aa),hp):=by
   refine ⟨false&&Nat.blt 0 1&&Nat.beq n (Cu.map aa).length,fun hp=>?_⟩;simp only [lU,yd,yh,slice,yg,<-List.map_take];rw [Nat.ble_eq_true_of_le (by simp;omega)];rfl
  have ltk:(Cu.take n).length=n:=by rw [yQ];omega
  have fF:=fy e' (Cu.take n);rw [ltk] at fF;obtain ⟨r0,f1,ma,awN⟩:=BO cJ fF (by omega);obtain ⟨r1,lr,f2,cw,aBt,auC,dr,nr,vr⟩:=agd pQ cJ ma (A2 (CU gu1 n)) (by have:=MX (Cu.take n);omega) EC hfB;have LS:=fy true qs;rw [LV] at LS;obtain ⟨q1,f3,fq,awO⟩:=BO cJ LS (by omega);rw [zC] at vr;unfold ae at f1 f2 f3;refine ⟨Cu,qs,⟨lu1,LV,gu1,gq1,aR,a7⟩,q1,r1,lr,fq,cw,dr,nr,vr,?_⟩;have oN:hZ 1 0 (AV.aC 0 0 1)=some (.ptr 0 0):=cW 0 0 (show 0<1 by omega)
  simp only [go_sem,ya,yb,an,t8,t10,t11,t12,iV,dG,LU,f1,awN,ma.af,oN,f2,auC,fun hp=>qK (hp:=hp) (k:=m) (sz:=1) (cs:=qs.map aa) true (by simp [LV]) (by decide),f3,awO];rcases fq with ⟨rfl,_⟩ | ⟨_,rfl⟩<;>rcases cw with ⟨rfl,_⟩ | ⟨_,rfl⟩<;>rfl
 obtain ⟨us,qs,⟨lu,lq,gu,gq,aR,a7⟩,q1,r1,lr,fq,cw,dr,nr,vr,e⟩:=jh;rw [zq] at aR a7;have KH:dv qs=dv a/dv b:=by
  rw [<-Nat.mul_div_mul_right _ _ EC,<-aR,yav,xC,Nat.mul_add_div (ybi rF EC),wC a7,y7]
 have QG:dv us=(dv a%dv b)*f:=by
  rw [<-Nat.mul_mod_mul_right,<-aR,yav,xC (dv qs),Nat.mul_add_mod,yS a7]
 have kA:=SC us n (by omega);have iN:dv (us.drop n)=0:=by
  rcases xt (dv (us.drop n)) with h0 | h0
  ·exact h0
  ·have:=yU (1000000000^n) h0
   omega
 rw [iN,xI,y7] at kA;rw [<-kA,QG,Nat.mul_div_cancel _ EC] at vr;exact ⟨q1,r1,_,lr,e,fq,cw,A2 gq,E9 _,dr,nr,by rw [zC,KH],vr⟩
def ae5 (h:Has P L 289 sF) (lC:Has P L 293 BG) (oC:Has P L 296 sG) (pQ:Has P L 299 BI) (cJ:Has P L 300 lS) (rm:Has P L 301 Ad) {v w:AV} {a b:List Int} (hv:bl v a) (hw:bl w b) (ha:dg a) (hb:dg b) (na:nz a) (nb:nz b) (la:a.length<=8000000000) (lb:b.length<=8000000000) (h0:0<dv b):
  ∃q r lq lr,ae P L 289 [v,w] (.au [q,r])/\bl q lq/\bl r lr/\dg lq/\nz lq/\dg lr/\nz lr/\dv lq=dv a/dv b/\dv lr=dv a%dv b:=by
 by_cases hl:b.length<=1
 ·exact awy h oC pQ cJ hv hw ha hb na nb (by omega) hl h0
 have ec:=VA oC hv hw ha hb na nb (by omega) (by omega);by_cases hc:dv a<dv b
 ·unfold ae at ec;have ez:dR (dv a) (dv b)= -1:=by unfold dR;rw [yH hc]
  rw [ez] at ec;refine ⟨.ab,v,[],a,?_,nf,hv,rfl,rfl,ha,na,?_,?_⟩
  ·unfold ae;rw [ay h];simp only [go_sem,ya,sF,hv.af,hw.af,ec,show (-1:Int)<0 by decide];rcases hv with ⟨rfl,_⟩ | ⟨e,rfl⟩<;>rfl
  ·rw [wC hc];rfl
  ·rw [yS hc]
 ·exact asM h lC pQ cJ rm hv hw ha hb na nb la (by omega) ec (by omega)
def ae6 (h:Has P L 275 O7) (KP:Has P L 289 sF) (lC:Has P L 293 BG) (oC:Has P L 296 sG) (pQ:Has P L 299 BI) (cJ:Has P L 300 lS) (rm:Has P L 301 Ad) {v w:AV} {a b:List Int} (hv:bl v a) (hw:bl w b) (ha:dg a) (hb:dg b) (na:nz a) (nb:nz b) (la:a.length<=8000000000) (lb:b.length<=8000000000):
  ∃r l,ae P L 275 [v,w] r/\bl r l/\dg l/\nz l/\dv l=wD (dv a) (dv b):=by
 have key:=eF (P:=P) (L:=L) (live:=[0,1]) (a:=Jm)
  (I:=fun k st=>∃x y lx ly,st=⟨[(0,x),(1,y)],[],0,0⟩/\bl x lx/\bl y ly/\dg lx/\nz lx/\dg ly/\nz ly/\lx.length<=8000000000/\ly.length<=8000000000/\dv ly=k/\wD (dv lx) (dv ly)=wD (dv a) (dv b))
  (Q:=fun ex st=>∃tm ct,st=⟨tm,[],ct,0⟩/\ex= .exit 0/\∃x lx,ah tm 0=x/\bl x lx/\dg lx/\nz lx/\dv lx=wD (dv a) (dv b)) ?_
 ·unfold ae;rw [ay h];simp only [go_sem,O7];generalize hq:D P L (.loop [0,1] Jm) _=q;obtain ⟨ex,st,rfl,tm,ct,rfl,rfl,x,lx,h2,hx,dx,nx,vx⟩:=bD hq (key (dv b)) ⟨v,w,a,b,by simp only [go_sem,ya,an,ak hv.pu,ao _ hv.pu,ak hw.pu,ao _ hw.pu]<;>rfl,hv,hw,ha,na,hb,nb,la,lb,rfl,rfl⟩
  refine ⟨x,lx,?_,hx,dx,nx,vx⟩;simp only [go_sem,an,h2,hx.dw,ak hx.pu,ao _ hx.pu]
 ·rintro k st ⟨x,y,lx,ly,rfl,hx,hy,dx,nx,dy,ny,llx,lly,rfl,hg⟩;by_cases h0:ly=[]
  ·right
   subst h0;simp only [go_sem,ya,Jm,hy.len,yK,show ¬(0:Int)<((0:Nat):Int) by omega];refine ⟨_,_,rfl,by simp,_,_,rfl,rfl,x,lx,by simp only [go_sem,ya],hx,dx,nx,?_⟩;rw [<-hg];simp [dv]
  ·left
   have hp:0<dv ly:=by
    rcases xt (dv ly) with e | e
    ·exact absurd (SP ny dy e) h0
    ·exact e
   have hl:0<ly.length:=uO.2 h0;obtain ⟨q,r,lq,lr,e1,hq,hr,dq,nq,dr,nr,vq,vr⟩:=ae5 KP lC oC pQ cJ rm hx hy dx dy nx ny llx lly hp;have a7:dv lr<dv ly:=by rw [vr];exact xz _ hp
   have hB:=jL dy;simp only [go_sem,ya,Jm,hx.af,hy.len,hy.af,show (0:Int)<ly.length by omega,e1,hq.bG,hr.bG];refine ⟨_,dv lr,rfl,a7,y,r,ly,lr,?_,hy,hr,dy,ny,dr,nr,by omega,xn (iE dr nr (Nat.lt_trans a7 hB)) lly,rfl,?_⟩
   ·simp only [go_sem,ya,an,ak hy.pu,ao _ hy.pu,ak hr.pu,ao _ hr.pu]<;>rfl
   ·rw [<-hg,vr,uC (dv ly),<-Nat.gcd_rec,uC]
end
end
section
open Go (IntKind)
section
variable {P:aG} {L:Lib}
def asN (Ah:Has P L 290 Gg) {neg:Bool} {N:Nat} (hN:(aB N).length<=180000000000):
  ∀k s,(∃(i m:Nat) (out:List Int),m=k/\out.length=i/\dg out/\dv out+1000000000^i*m=N/\(aB m).length+9*i<=180000000000/\
    ((i=0/\aT [0,2,3,4] s=⟨[(0,.str (aB m)),(2,.ptr 0 0),(3,.bool neg),(4,.ab)],[(0,.cells true true true 2 [.bool false,.ab])],1,0⟩)\/
    (0<i/\aT [0,2,3,4] s=⟨[(0,.str (aB m)),(2,.ptr 0 0),(3,.bool neg),(4,.aC 1 0 i)],[(1,.cells true true false 1 (out.map aa)),(0,.cells true true true 2 [.bool false,.ab])],2,0⟩)))->
   ∃ex s',D P L (.loop [0,2,3,4] zP) s=some (ex,s')/\∃tm i m out,ex= .exit 0/\m<1000000000/\out.length=i/\dg out/\dv out+1000000000^i*m=N/\i<20000000000/\ah tm 0= .str (aB m)/\ah tm 2= .ptr 0 0/\ah tm 3= .bool neg/\
    ((i=0/\ah tm 4= .ab/\s'=⟨tm,[(0,.cells true true true 2 [.bool false,.ab])],1,0⟩)\/(0<i/\ah tm 4= .aC 1 0 i/\s'=⟨tm,[(1,.cells true true false 1 (out.map aa)),(0,.cells true true true 2 [.bool false,.ab])],2,0⟩)):=by
 intro dq sq;generalize bw:aT [0,2,3,4] sq=s0;revert bw s0 sq dq;apply dn;rintro k s ⟨i,m,out,rfl,hlen,hd,aR,hl,hs⟩;by_cases hm:1000000000<=m
 ·left
  obtain ⟨q,hq⟩:∃q,q=m/1000000000:=⟨_,rfl⟩;obtain ⟨r,hr⟩:∃r,r=m%1000000000:=⟨_,rfl⟩;have iV:=ann hm;rw [<-hq,<-hr] at iV;have fm:=Sy 9 r;have hqp:=zD q;have hlm:(aB m).length=(aB q).length+9:=by rw [iV,yW,fm]
  have c1:iJ (aB m) (some (aB q).length) (some (aB m).length)=some (.str (iU 9 r)):=by
   rw [lL (by omega) (yr _),xQ,iV,yaA]
  have c2:iJ (aB m) (some 0) (some (aB q).length)=some (.str (aB q)):=by
   rw [lL (by omega) (by omega),yg,iV,yaz]
  have e1:=KC Ah (s:=iU 9 r) (v:=r) (by omega) (by rw [aaH 9 r 0 (by omega)];simp)
  unfold ae at e1;have rk:dg (out++[(r:Int)]):=hJ.2 ⟨hd,jG.2 (by omega)⟩;have Ou:dv (out++[(r:Int)])+1000000000^(i+1)*q=N:=by
   rw [mh,hlen,<-aR,xk];have e:=Nat.mod_add_div m 1000000000;rw [<-hr,<-hq] at e;rw [<-e];simp only [dv,xp,xI,y7,xA,xr];omega
  have OI:((aB m).length:Int)-9=((aB q).length:Int):=by omega
  rcases hs with ⟨h0,rfl⟩ | ⟨h0,rfl⟩
  ·subst h0;have ji:out=[]:=yD hlen;subst ji
   simp only [go_sem,ya,yb,xj,yt,yi,yh,zP,show (9:Int)<((aB m).length:Int) by omega,OI,wrapN (n:=(aB q).length) (by omega),eR,fb,dG,c1,c2,e1,gC];refine ⟨_,q,rfl,by omega,1,q,[]++[(r:Int)],rfl,rfl,rk,Ou,by omega,.inr ⟨by omega,?_⟩⟩;rfl
  ·simp only [go_sem,ya,yb,yi,yh,zP,show (9:Int)<((aB m).length:Int) by omega,OI,wrapN (n:=(aB q).length) (by omega),eR,fb,dG,c1,e1]
   rw [fV (ex:=false) (pu:=true) (cs:=out.map aa) (by simp only [go_sem,ya]) (by rw [yL,hlen,yh]) (by omega) (by omega) (by decide) (by simp only [go_sem])]
   simp only [go_sem,ya,yb,eR,fb,dG,OI,wrapN (n:=(aB q).length) (by omega),c2];refine ⟨_,q,rfl,by omega,i+1,q,out++[(r:Int)],rfl,by simp [hlen],rk,Ou,by omega,.inr ⟨by omega,?_⟩⟩;rw [xq];simp only [go_sem,ya,yb,an]<;>rfl
 ·right
  have h9:(aB m).length<=9:=qO (k:=8) (by omega);have hp0:=zD m;rcases hs with ⟨h0,rfl⟩ | ⟨h0,rfl⟩
  ·simp only [go_sem,zP,show ¬(9:Int)<((aB m).length:Int) by omega];exact ⟨_,_,rfl,by simp,_,i,m,out,rfl,by omega,hlen,hd,aR,by omega,by simp only [go_sem,ya],by simp only [go_sem,ya],by simp only [go_sem,ya],.inl ⟨h0,by simp only [go_sem,ya],rfl⟩⟩
  ·simp only [go_sem,zP,show ¬(9:Int)<((aB m).length:Int) by omega];exact ⟨_,_,rfl,by simp,_,i,m,out,rfl,by omega,hlen,hd,aR,by omega,by simp only [go_sem,ya],by simp only [go_sem,ya],by simp only [go_sem,ya],.inr ⟨h0,by simp only [go_sem,ya],rfl⟩⟩
end
end
section
open Go (IntKind)
section
variable {P:aG} {L:Lib}
def VG (h:Rb P L) {n:Int} (hn:(aB n.natAbs).length<=180000000000):∃r,ae P L 288 [.str (aY n)] r/\ja r n:=by
 obtain ⟨u,hu⟩:∃u,u=aB n.natAbs:=⟨_,rfl⟩;obtain ⟨b,t,hb,jS,hb2⟩:=EY n.natAbs;have hs:aY n=(if n<0 then [45] else [])++u:=by rw [hu,nW]
 have Cg:0<u.length:=by rw [hu];exact zD _
 have rB:u[0]=b:=by
  have:u=b::t:=by rw [hu,hb]
  simp [this]
 have key:∀(s:St),aT [0,2,3,4] s=⟨[(0,.str u),(2,.ptr 0 0),(3,.bool (decide (n<0))),(4,.ab)],[(0,.cells true true true 2 [.bool false,.ab])],1,0⟩->
   ∃ex s',D P L (.loop [0,2,3,4] zP) s=some (ex,s')/\∃tm i m out,ex= .exit 0/\m<1000000000/\out.length=i/\dg out/\dv out+1000000000^i*m=n.natAbs/\i<20000000000/\ah tm 0= .str (aB m)/\ah tm 2= .ptr 0 0/\ah tm 3= .bool (decide (n<0))/\
    ((i=0/\ah tm 4= .ab/\s'=⟨tm,[(0,.cells true true true 2 [.bool false,.ab])],1,0⟩)\/(0<i/\ah tm 4= .aC 1 0 i/\s'=⟨tm,[(1,.cells true true false 1 (out.map aa)),(0,.cells true true true 2 [.bool false,.ab])],2,0⟩)):=fun s hc=>
  asN (P:=P) (L:=L) h.Ah (neg:=decide (n<0)) hn n.natAbs s ⟨0,n.natAbs,[],rfl,rfl,rfl,by simp [dv],by omega,.inl ⟨rfl,by rw [hc,hu]⟩⟩
 have fin:∀(i m:Nat) (out:List Int),m<1000000000->out.length=i->dg out->dv out+1000000000^i*m=n.natAbs->i<20000000000->∃w l,bQ P L (D P L) 294 [.bool (decide (n<0)),.aJ false (i+1) ((out++[(m:Int)]).map aa)]=some (.agg [.bool (decide (n<0)),w])/\bl w l/\dg l/\nz l/\dv l=n.natAbs:=fun i m out h1 h2 h3 h4 h5=>by
  have hv:=fy false (out++[(m:Int)]);have hd:dg (out++[(m:Int)]):=hJ.2 ⟨h3,jG.2 (by omega)⟩;have aR:dv (out++[(m:Int)])=n.natAbs:=by rw [mh,h2];simp [dv];exact h4
  obtain ⟨r,e,hr⟩:=oA h.ij h.cJ (decide (n<0)) hv hd (by simp;omega);have G8:cf (decide (n<0)) (dv (out++[(m:Int)]))=n:=by
   rw [aR];unfold cf;by_cases h0:n<0
   ·simp only [h0,ym,xm];omega
   ·simp only [h0,yk,yF,xh];omega
  rw [G8] at hr;obtain ⟨w,l,rfl,hw,fT,jj,cY⟩:=hr;simp only [yW,List.length_singleton,h2] at e;exact ⟨w,l,e,hw,fT,jj,cY⟩
 unfold ae;rw [hs];by_cases h0:n<0
 ·rw [yH h0,ay h.agl];have lH:iJ (45::u) (some 1) (some (u.length+1))=some (.str u):=by rw [lL (s:=45::u) (l:=1) (h:=u.length+1) (by omega) (by simp)];simp
  simp only [h0,ym] at key fin ⊢;simp only [go_sem,ya,yb,Pc,aK,show (0:Int)<((u.length+1:Nat):Int) by omega,xu,xM,DU,ym,eR,fb,dG,lH];generalize hq:D P L (.loop [0,2,3,4] zP) _=q;obtain ⟨ex,s,rfl,tm,i,m,out,rfl,hm,hlen,hd,aR,hi,t0,t2,t3,Dz⟩:=bD hq key (by simp only [go_sem,ya,yb,an]<;>rfl)
  have e1:=KC h.Ah (s:=aB m) (v:=m) (by have:=qO (k:=8) (n:=m) (by omega);omega) (CM m);have bL:i<20000000000:=hi;obtain ⟨w,l,e2,hw,fT,jj,cY⟩:=fin i m out hm hlen hd aR bL;refine ⟨_,?_,w,l,rfl,hw,fT,jj,cY⟩;unfold ae at e1;rcases Dz with ⟨rJ,t4,rfl⟩ | ⟨rJ,t4,rfl⟩
  ·subst rJ;have ji:out=[]:=yD hlen;subst ji;have fF:∀hp:Hp,lU 0 1 (some (false,1,[AV.int .i64 (m:Int)],hp))=some (.aJ false 1 [AV.int .i64 (m:Int)],hp):=fun hp=>rfl
   simp only [xM,yV,wz,yd] at e2;simp only [go_sem,ya,yb,xj,yt,yi,yh,an,t0,t2,t3,t4,e1,gC,fF,e2,bC,hw.pu,hw.one,dI];rcases hw with ⟨rfl,_⟩ | ⟨e,rfl⟩<;>simp only [h0,ym]<;>rfl
  ·simp only [go_sem,ya,yb,yi,yh,an,t0,t2,t3,t4,e1]
   rw [fV (ex:=false) (pu:=true) (cs:=out.map aa) (by simp only [go_sem,ya]) (by rw [yL,hlen,yh]) (by omega) (by omega) (by decide) (by simp only [go_sem])];have fF:∀hp:Hp,lU 0 (i+1) (some (false,1,out.map aa++[AV.int .i64 (m:Int)],hp))=some (.aJ false (i+1) (out.map aa++[AV.int .i64 (m:Int)]),hp):=fun hp=>qK false (by simp [hlen]) (by decide)
   simp only [xq,yV,wz] at e2;simp only [go_sem,ya,yb,fF,e2,bC,hw.pu,hw.one,dI,uj];rcases hw with ⟨rfl,_⟩ | ⟨e,rfl⟩<;>simp only [h0,ym]<;>rfl
 ·rw [yA h0,ay h.agl,xM];simp only [h0,yk] at key fin ⊢;simp only [go_sem,ya,yb,Pc,aK,show (0:Int)<(u.length:Int) by omega,qS Cg,rB,show ¬((b:Nat):Int)=45 by omega];generalize hq:D P L (.loop [0,2,3,4] zP) _=q;obtain ⟨ex,s,rfl,tm,i,m,out,rfl,hm,hlen,hd,aR,hi,t0,t2,t3,Dz⟩:=bD hq key (by simp only [go_sem,ya,yb,an]<;>rfl)
  have e1:=KC h.Ah (s:=aB m) (v:=m) (by have:=qO (k:=8) (n:=m) (by omega);omega) (CM m);have bL:i<20000000000:=hi;obtain ⟨w,l,e2,hw,fT,jj,cY⟩:=fin i m out hm hlen hd aR bL;refine ⟨_,?_,w,l,rfl,hw,fT,jj,cY⟩;rcases Dz with ⟨rJ,t4,rfl⟩ | ⟨rJ,t4,rfl⟩
  ·subst rJ;have ji:out=[]:=yD hlen;subst ji;have fF:∀hp:Hp,lU 0 1 (some (false,1,[AV.int .i64 (m:Int)],hp))=some (.aJ false 1 [AV.int .i64 (m:Int)],hp):=fun hp=>rfl
   simp only [xM,yV,wz,yd] at e2;simp only [go_sem,ya,yb,xj,yt,yi,yh,an,t0,t2,t3,t4,e1,gC,fF,e2,bC,hw.pu,hw.one,dI];rcases hw with ⟨rfl,_⟩ | ⟨e,rfl⟩<;>simp only [h0,yk]<;>rfl
  ·simp only [go_sem,ya,yb,yi,yh,an,t0,t2,t3,t4,e1]
   rw [fV (ex:=false) (pu:=true) (cs:=out.map aa) (by simp only [go_sem,ya]) (by rw [yL,hlen,yh]) (by omega) (by omega) (by decide) (by simp only [go_sem])];have fF:∀hp:Hp,lU 0 (i+1) (some (false,1,out.map aa++[AV.int .i64 (m:Int)],hp))=some (.aJ false (i+1) (out.map aa++[AV.int .i64 (m:Int)]),hp):=fun hp=>qK false (by simp [hlen]) (by decide)
   simp only [xq,yV,wz] at e2;simp only [go_sem,ya,yb,fF,e2,bC,hw.pu,hw.one,dI,uj];rcases hw with ⟨rfl,_⟩ | ⟨e,rfl⟩<;>simp only [h0,yk]<;>rfl
end
end
section
open Go (IntKind)
def ER (n:Int) (r:List Nat):bR (aY n++r)=(aY n).length+bR r:=by
 rw [<-nW]
 split
 ·simp only [xu,xM,bR,yC];rw [yA (by decide),MA r (IJ _)];omega
 ·rw [xM];exact MA r (IJ _)
def SD:∀{a b:List Nat},cI a b=true->a=b
 | [],[],_=>rfl
 | [],_::_,h=>by simp [cI] at h
 | _::_,[],h=>by simp [cI] at h
 | x::a,y::b,h=>by
  simp only [cI,Bool.and_eq_true] at h;rw [Nat.eq_of_beq_eq_true h.1,SD h.2]
def ae7 {n:Int} {d:Nat} (h:n≠0):cI (TT n d) [48]=false:=by
 cases hb:cI (TT n d) [48] with
 | false=>rfl
 | true=>
  have e:=SD hb;unfold TT at e;by_cases h0:n<0
  ·rw [nh h0] at e;simp at e
  ·obtain ⟨m,rfl⟩:∃m:Nat,n=m:=⟨n.toNat,by omega⟩;rw [kP] at e;obtain ⟨b,r,cR,_,_⟩:=EY m;rw [cR] at e;simp only [xu,List.cons.injEq,List.append_eq_nil_iff] at e;have hv:=CM m;rw [cR,e.1,e.2.1] at hv
   have:(some 0:Option Nat)=some m:=hv
   grind
section
variable {P:aG} {L:Lib}
def asP (h:Rb P L):∃r,ae P L 281 [aa 1] r/\ja r 1:=by
 obtain ⟨r,e,hr⟩:=oA h.ij h.cJ false (fy false [(1:Int)]) (by decide) (by decide);obtain ⟨w,l,rfl,hw,hd,hz,hv⟩:=hr;refine ⟨_,?_,w,l,rfl,hw,hd,hz,hv⟩;simp only [yV,wz,yC,yK,yd] at e;have fF:∀hp:Hp,lU 0 1 (some (false,1,[AV.int .i64 1],hp))=some (.aJ false 1 [AV.int .i64 1],hp):=fun hp=>rfl
 unfold ae at e ⊢;rw [ay h.agk];simp only [go_sem,ya,yb,xj,yt,yi,yh,O9,aK,Int.reduceLT,yk,FJ,an,sd,Int.reduceEq,yI,yJ,ym,fM _ _ _ (show (1000000000:Int)≠0 by decide),fw _ _ _ (show (1000000000:Int)≠0 by decide),show Int.tmod 1 1000000000=1 from rfl,show Int.tdiv 1 1000000000=0 from rfl,show IntKind.wrap .i64 0=0 from rfl,gC,fF,e,hw.pu,hw.one,bC,dI];rcases hw with ⟨rfl,_⟩ | ⟨e,rfl⟩<;>rfl
def agr (h:Rb P L) {n:Int} {d:Nat} (hn:(aB n.natAbs).length<=144000000000) (hd:(aB d).length<=144000000000):
  ∃x y,ae P L 274 [.str (TT n d)] (.au [x,y])/\ja x n/\ja y d:=by
 obtain ⟨x,e1,hx⟩:=VG h (n:=n) (by omega);have hli:(aY n).length<=(aB n.natAbs).length+1:=by rw [<-nW];split<;>simp
 by_cases h1:d=1
 ·subst h1;obtain ⟨y,e2,hy⟩:=asP h;have hT:TT n 1=aY n:=by unfold TT;simp
  have hs:=ER n [];rw [wJ] at hs;have e3:=DT h.Ag (s:=aY n) (by omega);rw [hs] at e3;refine ⟨x,y,?_,hx,hy⟩;obtain ⟨xw,xl,rfl,dz,_,_,_⟩:=hx;obtain ⟨yw,yl,rfl,dP,_,_,_⟩:=hy;rw [hT];unfold ae at e1 e2 e3 ⊢;rw [ay h.agi];simp only [go_sem,ya,yb,O6,aK,e3,bR,y7,ym,e1,e2,bC,dz.pu,dz.one,dP.pu,dP.one,dI];rcases dz with ⟨rfl,_⟩ | ⟨e,rfl⟩<;>rcases dP with ⟨rfl,_⟩ | ⟨e',rfl⟩<;>rfl
 ·obtain ⟨y,e2,hy⟩:=VG h (n:=(d:Int)) (by simp;omega);rw [kP] at e2;obtain ⟨s,lJ⟩:∃s,s=TT n d:=⟨_,rfl⟩;have hT:s=aY n++47::aB d:=by rw [lJ];unfold TT;rw [yA h1]
  have hs:bR s=(aY n).length:=by rw [hT,ER];rfl
  have hlen:s.length=(aY n).length+(aB d).length+1:=by rw [hT];simp;omega
  have e3:=DT h.Ag (s:=s) (by omega);rw [hs] at e3;have c1:iJ s (some 0) (some (aY n).length)=some (.str (aY n)):=by
   rw [lL (by omega) (by omega),yg,hT,yaz]
  have c2:iJ s (some ((aY n).length+1)) (some s.length)=some (.str (aB d)):=by
   rw [lL (by omega) (yr _),xQ,hT,show aY n++47::aB d=(aY n++[47])++aB d by simp,show (aY n).length+1=(aY n++[47]).length by simp,yaA]
  refine ⟨x,y,?_,hx,hy⟩;obtain ⟨xw,xl,rfl,dz,_,_,_⟩:=hx;obtain ⟨yw,yl,rfl,dP,_,_,_⟩:=hy;rw [<-lJ];unfold ae at e1 e2 e3 ⊢;rw [ay h.agi]
  simp only [go_sem,ya,yb,O6,aK,e3,show ¬((aY n).length:Int)=(s.length:Int) by omega,eR,fb,dG,c1,wrapN (n:=(aY n).length+1) (by omega),show ((aY n).length:Int)+1=(((aY n).length+1:Nat):Int) from rfl,c2,e1,e2,bC,dz.pu,dz.one,dP.pu,dP.one,dI];rcases dz with ⟨rfl,_⟩ | ⟨e,rfl⟩<;>rcases dP with ⟨rfl,_⟩ | ⟨e',rfl⟩<;>rfl
end
end
end VE
