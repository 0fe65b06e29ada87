import Derived.Test.YtfohkkaphnfgoabGreatDoorTaq
import Derived.Test.YtfohkkaphnfgoabGreatDoorTam
import Derived.Test.YtfohkkaphnfgoabGreatDoorTan
set_option linter.all false
set_option maxRecDepth 100000
open Bool renaming and_true→uv,false_eq_true→yC,not_false→yG,not_true→yK
open Int renaming le_of_lt→uF,mul_add→ybv,mul_le_mul_of_nonneg_left→vC,mul_nonneg→yaG,natCast_add→yar,natCast_mul→vd,natCast_nonneg→uR,neg_neg→ybd,ofNat_eq_natCast→tJ,ofNat_lt→vW,pow_pos→ybw,pow_succ→uE,tdiv_eq_ediv_of_nonneg→xS,tmod_eq_emod_of_nonneg→xB,toNat_natCast→xN
open Int.ofNat renaming inj→tO
open List renaming append_assoc→xC,append_nil→wC,cons_append→xn,drop_drop→wQ,drop_eq_getElem_cons→yJ,drop_eq_nil_of_le→yP,drop_left→yaq,drop_zero→yi,eq_nil_of_length_eq_zero→yD,getD_eq_getElem?_getD→xU,getElem?_eq_getElem→wH,length_append→yW,length_cons→yu,length_drop→xY,length_map→yY,length_nil→yA,length_pos_iff→uI,length_take→yQ,map_append→xy,map_cons→yS,map_nil→xH,nil_append→xW,replicate→yH,set_eq_of_length_le→uX,take_append_drop→xP,take_left→yap,take_length→xM,take_of_length_le→yE,take_set→uZ
open Nat renaming add_comm→yal,add_mul→we,add_zero→yV,div_add_mod→xO,div_eq_of_lt→wk,div_lt_iff_lt_mul→xL,eq_zero_or_pos→xm,gcd→wo,gcd_comm→ux,le_of_lt_succ→uU,le_refl→yv,le_trans→xj,lt_of_lt_of_le→yN,min_eq_left→xQ,mod_eq_of_lt→yO,mod_lt→xv,mul_add→xx,mul_assoc→xk,mul_comm→xz,mul_le_mul→wN,mul_le_mul_left→yR,mul_le_mul_right→yU,mul_lt_mul''→tj,mul_lt_mul_of_pos_right→wE,mul_one→yj,mul_pos→yaZ,mul_zero→xE,pow_add→wj,pow_le_pow_right→xA,pow_lt_pow_iff_right→tc,pow_succ→xg,reduceAdd→yb,reduceEqDiff→ya,reduceLT→yq,reduceLeDiff→yh,reduceMul→xt,zero_add→yd
namespace VE
section
open Go (IntKind)
def Po (n:Nat):(yH n [AV.int .i64 0]).flatten=(yH n (0:Int)).map aa:=by simp_all
def anH (b:Bool):IT true (some b)=some (.bool (!b)):=by cases b<;>rfl
def Xf (n m:Nat):(yH n (0:Int)).getD m 0=0:=by grind
section
variable {P:aI} {L:Lib}
def aqr {v w:AV} {a b:List Int} (hv:bk v a) (hw:bk w b) (ha:dg a) (hb:dg b) (la:a.length<=20000000000) (lb:b.length<=20000000000) {n:Nat} (hn:n=a.length+b.length):
  ∀k s,(∃(i:Nat) (out:List Int),bf [0,1,5,6] s=⟨[(0,v),(1,w),(5,.aE 0 0 n),(6,aa i)],[(0,.cells true true true 1 (out.map aa))],1,0⟩/\i+k=a.length/\out.length=n/\dg out/\dv out=dv (a.take i)*dv b/\(∀m,i+b.length<=m->out.getD m 0=0))->
   ∃ex s',D P L (.loop [0,1,5,6] HH) s=some (ex,s')/\∃tm out,s'=⟨tm,[(0,.cells true true true 1 (out.map aa))],1,0⟩/\ex= .exit 0/\aj tm 5= .aE 0 0 n/\out.length=n/\dg out/\dv out=dv a*dv b:=by
 intro dq sq;generalize bQ:bf [0,1,5,6] sq=s0;revert bQ s0 sq dq;apply eO;rintro k s ⟨i,out,rfl,hk,hlen,hd,aQ,fN⟩;by_cases hi:i<a.length
 ·left
  simp only [go_sem,ya,HH,hv.len,show (i:Int)<a.length by omega];generalize hq:D P L (.loop [0,1,5,6,7,8] HG) _=q;obtain ⟨ex,s,rfl,tm,c,qB,rfl,rfl,t0,t1,t5,t6,t7,RE,jD,hc,RF,IW⟩:=bI hq (aqq (P:=P) (L:=L) hv hw ha hb la lb hn hi (out0:=out) b.length) ⟨0,0,out,by simp only [go_sem,ya,yb,ao,aA hv.pu,aF _ hv.pu,aA hw.pu,aF _ hw.pu]<;>rfl,by omega,hlen,hd,by omega,by simp [dv],fun m _=>rfl⟩
  have hz:qB.getD (i+b.length) 0=0:=by rw [IW _ (yv _),fN _ (yv _)]
  have e3:=p9 (l:=qB) (o:=i+b.length) (by omega);rw [hz] at e3;have bh:=QQ (l:=qB) (j:=i+b.length) (x:=c) (by omega);rw [hz,wj] at bh
  simp only [go_sem,ya,yj,ao,t0,t1,t5,t6,t7,hw.len,aA hv.pu,aF _ hv.pu,aA hw.pu,aF _ hw.pu,wrapN (n:=i+b.length) (by omega),show (i:Int)+(b.length:Int)=((i+b.length:Nat):Int) from rfl,db 0 0 (show i+b.length<n by omega),yd,e3,Int.zero_add,wrap64 (n:=c) (by omega) (by omega),Bg (l:=qB) (o:=i+b.length) (by omega)];refine ⟨_,k-1,rfl,by omega,i+1,qB.set (i+b.length) c,?_,by omega,by simp [RE],LR jD hc,?_,fun m hm=>?_⟩
  ·rw [wrap64 (by omega) (by omega)];simp only [go_sem,ya,yb,ao,aA hv.pu,aF _ hv.pu,aA hw.pu,aF _ hw.pu]<;>rfl
  ·rw [nI,we,<-aQ,xk];simp only [Int.toNat_zero,xE,yV] at bh;rw [bh];exact RF
  ·rw [Yx (by omega),IW m (by omega),fN m (by omega)]
 ·right
  have:i=a.length:=by omega
  subst this;rw [xM] at aQ;simp only [go_sem,ya,HH,hv.len,show ¬(a.length:Int)<a.length by omega];exact ⟨_,_,rfl,by simp,_,out,rfl,rfl,by simp only [go_sem,ya],hlen,hd,aQ⟩
def Ta (h:Has P L 293 Ao) (cJ:Has P L 300 kJ) {v w:AV} {a b:List Int} (hv:bk v a) (hw:bk w b) (ha:dg a) (hb:dg b) (la:a.length<=8000000000) (lb:b.length<=8000000000):
  ∃r out,ae P L 293 [v,w] r/\bk r out/\shut r=r/\dg out/\nz out/\dv out=dv a*dv b:=by
 obtain ⟨n,hn⟩:∃n,n=a.length+b.length:=⟨_,rfl⟩;have cM:∀ct:Nat,sE ct 1 8 [.int .i64 0] (some n) (some n)=some (.aE ct 0 n,.cells true true true 1 ((yH n (0:Int)).map aa)):=fun ct=>by
  rw [HK (sz:=1) (by omega) (by omega) (by rfl) (by rfl),Po];rfl
 unfold ae;rw [au h]
 simp only [go_sem,ya,yb,Ao,hv.len,hw.len,wrapN (n:=n) (by omega),show (a.length:Int)+(b.length:Int)=((a.length+b.length:Nat):Int) from rfl,<-hn,cM];generalize hq:D P L (.loop [0,1,5,6] HH) _=q;obtain ⟨ex,s,rfl,tm,out,rfl,rfl,t5,hlen,hd,aQ⟩:=bI hq (aqr (P:=P) (L:=L) hv hw ha hb (by omega) (by omega) hn a.length) ⟨0,yH n 0,by simp only [go_sem,ya,yb,ao,aA hv.pu,aF _ hv.pu,aA hw.pu,aF _ hw.pu]<;>rfl,by omega,by simp,Yz n,by rw [Yy];simp [dv],fun m _=>Xf n m⟩
 have mZ:=fb true out;rw [hlen] at mZ;obtain ⟨r,e1,hr,fH⟩:=Ay cJ mZ (by omega);refine ⟨r,dL out,?_,hr,fH,zF hd,DF out,by rw [rG];exact aQ⟩
 have gA:∀hp:Hp,kL 0 n (some (true,1,out.map aa,hp))=some (.aH true n (out.map aa),hp):=fun hp=>pM true (by simp [hlen]) (by decide)
 simp only [go_sem,yb,ao,t5,gA,e1,fH,hr.dY]
def I8 (h:Has P L 278 MY) (jY:Has P L 293 Ao) (gK:Has P L 294 Ap) (cJ:Has P L 300 kJ) {v w:AV} {n m:Int} {K:Nat} (hK:K<=8000000000) (hv:iq v n) (hw:iq w m) (hn:n.natAbs<1000000000^K) (hm:m.natAbs<1000000000^K):
  ∃r,ae P L 278 [v,w] r/\iq r (n*m):=by
 obtain ⟨x,a,rfl,hx,ha,na,va⟩:=hv;obtain ⟨y,b,rfl,hy,hb,nb,vb⟩:=hw;have la:=xj (gT ha na (by rw [va];exact hn)) hK
 have lb:=xj (gT hb nb (by rw [vb];exact hm)) hK
 obtain ⟨z,out,e1,hz,fH,hd,A9,aQ⟩:=Ta jY cJ hx hy ha hb la lb;have lo:out.length<=20000000000:=by
  refine gT hd A9 ?_;rw [aQ];have h1:=jh ha;have h2:=jh hb;have h3:dv a*dv b<1000000000^a.length*1000000000^b.length:=tj h1 h2;rw [<-wj] at h3;have hk:∀K,a.length+b.length<=K->dv a*dv b<1000000000^K:=fun K h=>yN h3 (xA (by decide) h)
  exact hk 20000000000 (by omega)
 obtain ⟨r,e2,hr⟩:=mT gK cJ (!(decide (n<0)==decide (m<0))) hz hd lo;have e:cg (!(decide (n<0)==decide (m<0))) (dv out)=n*m:=by
  rw [aQ,va,vb];have hnm:((n.natAbs*m.natAbs:Nat):Int)=(n.natAbs:Int)*m.natAbs:=vd _ _;unfold cg;by_cases h0:n<0<;>by_cases h1:m<0<;>simp only [h0,h1,yo,yp,tk,yK,yC,y8,hnm]
  ·rw [show (n.natAbs:Int)= -n by omega,show (m.natAbs:Int)= -m by omega,Int.neg_mul_neg]
  ·rw [show (true==false)=false from rfl,yG,yL rfl,show (n.natAbs:Int)= -n by omega,show (m.natAbs:Int)=m by omega,Int.neg_mul,ybd]
  ·rw [show (false==true)=false from rfl,yG,yL rfl,show (n.natAbs:Int)=n by omega,show (m.natAbs:Int)= -m by omega,Int.mul_neg,ybd]
  ·rw [show (n.natAbs:Int)=n by omega,show (m.natAbs:Int)=m by omega]
 rw [e] at hr;obtain ⟨w2,l2,rfl,gN,fB,ik,sH⟩:=hr;refine ⟨_,?_,w2,l2,rfl,gN,fB,ik,sH⟩;unfold ae at e1 e2 ⊢;rw [au h];simp only [go_sem,ya,yb,MY,aG,hx.pu,hx.af,hx.one,hy.pu,hy.af,hy.one,hz.af,hz.shut,gN.pu,gN.one,aZ,yd,bX,e1,nW,anH,e2,dj,bm];rcases gN with ⟨rfl,_⟩ | ⟨e,rfl⟩<;>rfl
end
end
section
open Go (IntKind)
def anI (i:Nat) (q:List Int) (x:Int):(yH (i+1) (0:Int)++q).set i x=yH i 0++x::q:=by
 rw [List.replicate_succ',xC,List.set_append_right _ _ (by simp)]
 simp
section
variable {P:aI} {L:Lib}
def aqs {v:AV} {a:List Int} (hv:bk v a) (ha:dg a) (la:a.length<=20000000000) {d:Nat} (h0:0<d) (h1:d<1000000000):
  ∀k s,(∃(j r:Nat) (q:List Int),bf [0,1,6,7,8] s=⟨[(0,v),(1,aa d),(6,.aE 0 0 a.length),(7,aa r),(8,aa ((j:Int)-1))],[(0,.cells true true true 1 ((yH j (0:Int)++q).map aa))],1,0⟩/\j=k/\j+q.length=a.length/\r<d/\dg q/\dv (a.drop j)=d*dv q+r)->
   ∃ex s',D P L (.loop [0,1,6,7,8] HI) s=some (ex,s')/\∃tm r q,s'=⟨tm,[(0,.cells true true true 1 (q.map aa))],1,0⟩/\ex= .exit 0/\aj tm 6= .aE 0 0 a.length/\aj tm 7=aa (r:Nat)/\q.length=a.length/\r<d/\dg q/\dv a=d*dv q+r:=by
 intro dq sq;generalize bQ:bf [0,1,6,7,8] sq=s0;revert bQ s0 sq dq;apply eO;rintro k s ⟨j,r,q,rfl,rfl,hl,hr,hd,aQ⟩
 cases j with
 | zero=>
  right
  simp only [go_sem,ya,HI,show ¬(0:Int)<=((0:Nat):Int)-1 by omega];exact ⟨_,_,rfl,by simp,_,r,q,rfl,rfl,by simp only [go_sem,ya],by simp only [go_sem,ya],by omega,hr,hd,aQ⟩
 | succ i=>
  left
  have hi:i<a.length:=by omega
  obtain ⟨x,hx⟩:∃x,x=a.getD i 0:=⟨_,rfl⟩;have e1:=oW hv hi;have gx:=gS ha i;rw [<-hx] at e1 gx;obtain ⟨t,ht⟩:∃t:Nat,t=r*1000000000+x.toNat:=⟨_,rfl⟩;have zc:(r:Int)*1000000000+x=(t:Int):=by omega
  have jF:t<d*1000000000:=by
   omega
  have eT:t/d<1000000000:=(xL h0).2 (by rw [xz];exact jF)
  have cw:t%d<d:=xv _ h0;have e2:((t:Nat):Int).tdiv d=((t/d:Nat):Int):=by rw [xS (by omega)];rfl
  have e3:((t:Nat):Int).tmod d=((t%d:Nat):Int):=by rw [xB (by omega)];rfl
  have JW:(yH (i+1) (0:Int)++q).length=a.length:=by simp;omega
  have aR:=fun (hp:Hp) (ct id:Nat) (ex:Bool)=>Bg (hp:=hp) (ct:=ct) (id:=id) (ex:=ex) (v:=((t/d:Nat):Int)) (l:=yH (i+1) (0:Int)++q) (o:=i) (by rw [JW];exact hi)
  simp only [anI] at aR
  simp only [go_sem,ya,yj,HI,show ((i+1:Nat):Int)-1=(i:Int) by omega,show (0:Int)<=(i:Int) by omega,wrap64 (n:=(r:Int)*1000000000) (by omega) (by omega),e1,zc,wrapN (n:=t) (by omega),eV _ _ _ (show (d:Int)≠0 by omega),fo _ _ _ (show (d:Int)≠0 by omega),e2,e3,wrapN (n:=t/d) (by omega),db 0 0 (show i<a.length from hi),yd,aR]
  refine ⟨_,i,rfl,by omega,i,t%d,((t/d:Nat):Int)::q,?_,rfl,by simp;omega,cw,(gB (a:=[((t/d:Nat):Int)]) (b:=q)).2 ⟨jc.2 ⟨uR _,vW.2 eT⟩,hd⟩,?_⟩
  ·rw [wrap64 (by omega) (by omega)];simp only [go_sem,ya,yb,ao,aA hv.pu,aF _ hv.pu]<;>rfl
  ·have iI:a.drop i=x::a.drop (i+1):=by
    rw [yJ hi,hx];simp [xU,wH hi]
   rw [iI];simp only [dv,aQ,xN];have e:=xO t d;rw [xx,xx d,Nat.mul_left_comm 1000000000 d];omega
def ad8 (h:Has P L 299 Aq) (cJ:Has P L 300 kJ) {v:AV} {a:List Int} (hv:bk v a) (ha:dg a) (la:a.length<=20000000000) {d:Nat} (h0:0<d) (h1:d<1000000000):
  ∃r q,ae P L 299 [v,aa d] (.aq [r,aa (dv a%d:Nat)])/\bk r q/\shut r=r/\bT r=r/\dg q/\nz q/\dv q=dv a/d:=by
 obtain ⟨n,hn⟩:∃n,n=a.length:=⟨_,rfl⟩;have cM:∀ct:Nat,sE ct 1 8 [.int .i64 0] (some n) (some n)=some (.aE ct 0 n,.cells true true true 1 ((yH n (0:Int)).map aa)):=fun ct=>by
  rw [HK (sz:=1) (by omega) (by omega) (by rfl) (by rfl),Po];rfl
 unfold ae;rw [au h];simp only [go_sem,ya,yb,Aq,hv.len,<-hn,cM];generalize hq:D P L (.loop [0,1,6,7,8] HI) _=q;obtain ⟨ex,s,rfl,tm,r,qs,rfl,rfl,t6,t7,hlen,hr,hd,aQ⟩:=bI hq (aqs (P:=P) (L:=L) hv ha la h0 h1 a.length) ⟨a.length,0,[],by
  rw [wrap64 (by omega) (by omega),wC,<-hn]
  simp only [go_sem,ya,yb,ao,aA hv.pu,aF _ hv.pu]<;>rfl,rfl,by simp,h0,rfl,by rw [yP (yv _)];simp [dv]⟩
 have mZ:=fb true qs;rw [hlen] at mZ;obtain ⟨w,e1,hw,fH⟩:=Ay cJ mZ (by omega);have eU:dv a/d=dv qs/\dv a%d=r:=(Nat.div_mod_unique h0).2 ⟨by omega,hr⟩;refine ⟨w,dL qs,?_,hw,fH,hw.bT,zF hd,DF qs,by rw [rG,eU.1]⟩;have gA:∀hp:Hp,kL 0 a.length (some (true,1,qs.map aa,hp))=some (.aH true a.length (qs.map aa),hp):=fun hp=>pM true (by simp [hlen]) (by decide)
 rw [eU.2];simp only [go_sem,ya,yb,ao,t6,t7,gA,e1,fH];rcases hw with ⟨rfl,_⟩ | ⟨e,rfl⟩<;>rfl
def atZ (h:Has P L 279 Ey) (Nw:Has P L 295 ID) (mV:Has P L 296 qt) (Nx:Has P L 297 IE) (lP:Has P L 302 qu) (gK:Has P L 294 Ap) (cJ:Has P L 300 kJ) {v w:AV} {n m:Int} {K:Nat} (hK:K<=8000000000) (hv:iq v n) (hw:iq w m) (hn:n.natAbs<1000000000^K) (hm:m.natAbs<1000000000^K):
  ∃r,ae P L 279 [v,w] r/\iq r (n+m):=by
 obtain ⟨x,a,rfl,hx,ha,na,va⟩:=hv;obtain ⟨y,b,rfl,hy,hb,nb,vb⟩:=hw;have la:=xj (gT ha na (by rw [va];exact hn)) hK
 have lb:=xj (gT hb nb (by rw [vb];exact hm)) hK
 by_cases hs:(decide (n<0)==decide (m<0))=true
 ·obtain ⟨z,out,e1,hz,hd,aQ,hl⟩:=ad6 Nw lP hx hy ha hb (by omega) (by omega);have lo:out.length<=20000000000:=by omega
  obtain ⟨r,e2,hr⟩:=mT gK cJ (decide (n<0)) hz hd lo;have e:cg (decide (n<0)) (dv out)=n+m:=by
   have C4:(n<0)=(m<0):=by simpa using eq_of_beq hs
   rw [aQ,va,vb];unfold cg;by_cases h0:n<0
   ·have h1:m<0:=C4▸h0;simp only [h0,yo,xh];omega
   ·have h1:¬m<0:=C4▸h0;simp only [h0,yp,yC,y8];omega
  rw [e] at hr;obtain ⟨w2,l2,rfl,gN,fB,ik,sH⟩:=hr;refine ⟨_,?_,w2,l2,rfl,gN,fB,ik,sH⟩;unfold ae at e1 e2 ⊢;rw [au h];simp only [go_sem,ya,yb,Ey,aG,hx.pu,hx.af,hx.one,hy.pu,hy.af,hy.one,hz.af,gN.pu,gN.one,aZ,yd,bX,e1,nW,dK,hs,e2,dj,bm];rcases gN with ⟨rfl,_⟩ | ⟨e,rfl⟩<;>rfl
 ·have hs:(decide (n<0)==decide (m<0))=false:=by simpa using hs
  have C4:¬((n<0)=(m<0)):=fun e=>by simp [e] at hs
  have ec:=S9 mV hx hy ha hb na nb (by omega) (by omega);by_cases hc:dv a<dv b
  ·have dU:dF (dv a) (dv b)= -1:=by unfold dF;rw [yL hc]
   rw [dU] at ec;obtain ⟨z,out,e1,hz,fH,hd,A9,aQ⟩:=ad7 Nx lP cJ hy hx hb ha nb na (by omega) (by omega);have lo:out.length<=20000000000:=by
    refine gT hd A9 ?_
    have:=jh hb
    have hk:∀K,b.length<=K->dv out<1000000000^K:=fun K h=>yN (show dv out<1000000000^b.length by omega) (xA (by decide) h)
    exact hk 20000000000 (by omega)
   obtain ⟨r,e2,hr⟩:=mT gK cJ (decide (m<0)) hz hd lo;have e:cg (decide (m<0)) (dv out)=n+m:=by
    rw [va,vb] at aQ;unfold cg;by_cases h0:m<0
    ·have h1:¬n<0:=fun h1=>C4 (by simp [h0,h1])
     simp only [h0,yo,xh];omega
    ·have h1:n<0:=by
      by_cases h1:n<0
      ·exact h1
      ·exact absurd (by simp [h0,h1]) C4
     simp only [h0,yp,yC,y8];omega
   rw [e] at hr;obtain ⟨w2,l2,rfl,gN,fB,ik,sH⟩:=hr;refine ⟨_,?_,w2,l2,rfl,gN,fB,ik,sH⟩;unfold ae at e1 e2 ec ⊢;rw [au h];simp only [go_sem,ya,yb,Ey,aG,hx.pu,hx.af,hx.one,hy.pu,hy.af,hy.one,hz.af,hz.shut,gN.pu,gN.one,aZ,yd,bX,e1,nW,dK,hs,ec,show ¬(0:Int)<=-1 by decide,e2,dj,bm];rcases gN with ⟨rfl,_⟩ | ⟨e,rfl⟩<;>rfl
  ·have dU:(0:Int)<=dF (dv a) (dv b):=by unfold dF;rw [yF hc];split<;>decide
   obtain ⟨z,out,e1,hz,fH,hd,A9,aQ⟩:=ad7 Nx lP cJ hx hy ha hb na nb (by omega) (by omega);have lo:out.length<=20000000000:=by
    refine gT hd A9 ?_
    have:=jh ha
    have hk:∀K,a.length<=K->dv out<1000000000^K:=fun K h=>yN (show dv out<1000000000^a.length by omega) (xA (by decide) h)
    exact hk 20000000000 (by omega)
   obtain ⟨r,e2,hr⟩:=mT gK cJ (decide (n<0)) hz hd lo;have e:cg (decide (n<0)) (dv out)=n+m:=by
    rw [va,vb] at aQ;unfold cg;by_cases h0:n<0
    ·have h1:¬m<0:=fun h1=>C4 (by simp [h0,h1])
     simp only [h0,yo,xh];omega
    ·have h1:m<0:=by
      by_cases h1:m<0
      ·exact h1
      ·exact absurd (by simp [h0,h1]) C4
     simp only [h0,yp,yC,y8];omega
   rw [e] at hr;obtain ⟨w2,l2,rfl,gN,fB,ik,sH⟩:=hr;refine ⟨_,?_,w2,l2,rfl,gN,fB,ik,sH⟩;unfold ae at e1 e2 ec ⊢;rw [au h];simp only [go_sem,ya,yb,Ey,aG,hx.pu,hx.af,hx.one,hy.pu,hy.af,hy.one,hz.af,hz.shut,gN.pu,gN.one,aZ,yd,bX,e1,nW,dK,hs,ec,dU,e2,dj,bm];rcases gN with ⟨rfl,_⟩ | ⟨e,rfl⟩<;>rfl
end
end
section
open Go (IntKind)
section
variable {P:aI} {L:Lib}
def Qv {l:List Int} (hd:dg l) (hn:nz l) (h:dv l<1000000000):l.length<=1:=gT hd hn (by simpa using h)
def at0 (h:Has P L 289 qj) (mV:Has P L 296 qt) (n9:Has P L 299 Aq) (cJ:Has P L 300 kJ) {v w:AV} {a b:List Int} (hv:bk v a) (hw:bk w b) (ha:dg a) (hb:dg b) (na:nz a) (nb:nz b) (la:a.length<=20000000000) (lb:b.length<=1) (h0:0<dv b):
  ∃q r lq lr,ae P L 289 [v,w] (.aq [q,r])/\bk q lq/\bk r lr/\dg lq/\nz lq/\dg lr/\nz lr/\dv lq=dv a/dv b/\dv lr=dv a%dv b:=by
 have ec:=S9 mV hv hw ha hb na nb la (by omega);by_cases hc:dv a<dv b
 ·have dU:dF (dv a) (dv b)= -1:=by unfold dF;rw [yL hc]
  rw [dU] at ec;refine ⟨.ab,v,[],a,?_,lh,hv,rfl,rfl,ha,na,?_,?_⟩
  ·unfold ae;rw [au h];simp only [go_sem,ya,qj,hv.af,hw.af,ec,show (-1:Int)<0 by decide];rcases hv with ⟨rfl,_⟩ | ⟨e,rfl⟩<;>rfl
  ·rw [wk hc];rfl
  ·rw [yO hc]
 ·have dU:¬dF (dv a) (dv b)<0:=by unfold dF;rw [yF hc];split<;>decide
  have mq:b.length=1:=by
   rcases xm b.length with e | e
   ·rw [yD e] at h0;simp [dv] at h0
   ·omega
  obtain ⟨x,rfl⟩:∃x,b=[x]:=by
   cases b with
   | nil=>simp at mq
   | cons x r=>cases r with
    | nil=>exact ⟨x,rfl⟩
    | cons y r=>simp at mq
  have gx:=jc.1 hb;obtain ⟨d,hd⟩:∃d:Nat,x=d:=⟨x.toNat,by omega⟩;subst hd;have hdd:dv [((d:Nat):Int)]=d:=by simp [dv]
  rw [hdd] at h0 hc dU ec ⊢;obtain ⟨q,lq,e1,hq,hqs,at1,dq,nq,vq⟩:=ad8 n9 cJ hv ha la h0 (by omega);have acR:dv a%d<d:=xv _ h0;generalize dv a%d=m at*
  obtain ⟨r,e2,hr,hrs⟩:=Ay cJ (fb true [(m:Int)]) (by simp);refine ⟨q,r,lq,dL [(m:Int)],?_,hq,hr,dq,nq,zF (jc.2 (by omega)),DF _,vq,by rw [rG];simp [dv]⟩;have e3:=hw.a8 (i:=0) (by simp);simp only [yu,yA,yd,yS,xH,List.getElem_cons_zero] at e2 e3;unfold ae;rw [au h];simp only [go_sem,ya,yb,yq,yh,yj,qj,hv.af,hw.len,hw.af,ec,dU,yu,yA,show ((1:Nat):Int)=(1:Int) from rfl,yo,e3,e1,at1,e2,hrs];rcases hq with ⟨rfl,_⟩ | ⟨e,rfl⟩<;>rcases hr with ⟨rfl,_⟩ | ⟨e',rfl⟩<;>rfl
end
end
section
open Go (IntKind)
def sv:List Int->Int
 | []=>0
 | a::r=>a+1000000000*sv r
def X1:∀(a b:List Int),sv (a++b)=sv a+1000000000^a.length*sv b
 | [],b=>by simp [sv]
 | x::a,b=>by
  simp only [xn,sv,X1 a b,yu,uE,ybv]
  grind
def aqt (x:Int):sv [x]=x:=by simp [sv]
def D6:∀{l:List Int} {i:Nat} {x:Int},i<l.length->sv (l.set i x)=sv l+1000000000^i*(x-l.getD i 0)
 | [],i,x,h=>by simp at h
 | a::l,0,x,_=>by simp [sv];omega
 | a::l,i+1,x,h=>by
  have ih:=D6 (l:=l) (i:=i) (x:=x) (by simpa using h);simp only [List.set_cons_succ,sv,List.getD_cons_succ,ih,uE,ybv]
  grind
def LK {l:List Int} (i:Nat):sv (l.take (i+1))=sv (l.take i)+1000000000^i*l.getD i 0:=by
 by_cases h:i<l.length
 ·rw [List.take_succ_eq_append_getElem h,X1,yQ,xQ (by omega),aqt]
  grind
 ·rw [yE (by omega),yE (by omega),G5 (by omega),Int.mul_zero,Int.add_zero]
def sn:∀{l:List Int},dg l->sv l=dv l
 | [],_=>rfl
 | a::l,h=>by
  obtain ⟨h1,h2⟩:=gB.1 (show dg ([a]++l) from h);have h1:=jc.1 h1;simp only [sv,dv,sn h2,yar,vd];omega
section
variable {pre x post:List Int} {i:Nat}
def mJ:(pre++x++post).length=pre.length+x.length+post.length:=by grind
def zY (h:i<x.length):(pre++x++post).getD (pre.length+i) 0=x.getD i 0:=by grind
def LY (a:Int) (h:i<x.length):(pre++x++post).set (pre.length+i) a=pre++x.set i a++post:=by simp_all
end
def abm {l:List Int} {i m:Nat} {x:Int} (h:i≠m):(l.set i x).getD m 0=l.getD m 0:=by simp_all
def ajt {l:List Int} {i:Nat} {x:Int} (h:i<l.length):(l.set i x).getD i 0=x:=by simp_all
abbrev H3 (q u:List Int) (f:Int):Hp:=[(2,.cells true true true 1 (q.map aa)),(1,.cells true true false 1 (u.map aa)),(0,.cells false true true 1 [aa f])]
def Lh {live:List Nat} {tm:Env} {ct:Nat} {a b c:List AV} (ht:oU 3 (dN tm live)) (hl:(iS (dN tm live)).length<100000):
  bf live ⟨tm,[(2,.cells true true true 1 a),(1,.cells true true false 1 b),(0,.cells false true true 1 c)],ct,3⟩=⟨dN tm live,[(2,.cells true true true 1 a),(1,.cells true true false 1 b),(0,.cells false true true 1 c)],3,3⟩:=
 Wx ht ⟨by omega,.inl rfl,by omega,.inl rfl,by omega,.inl rfl,trivial⟩ (by
  have:iN 3 [(2,Obj.cells true true true 1 a),(1,Obj.cells true true false 1 b),(0,Obj.cells false true true 1 c)]=[]:=rfl
  rw [this,yA,yV];exact hl)
structure fI (x vs:List Int) (n v1 v2 u0 u1 u2:Nat):Prop where
 n2:2<=n
 nb:n<=20000000000
 lx:x.length=n+1
 lv:vs.length=n
 gx:dg x
 gv:dg vs
 eI:vs.getD (n-1) 0=(v1:Int)
 cT:vs.getD (n-2) 0=(v2:Int)
 h0:x.getD n 0=(u0:Int)
 h1:x.getD (n-1) 0=(u1:Int)
 h2:x.getD (n-2) 0=(u2:Int)
 pos:0<v1
 lt:dv x<1000000000*dv vs
section
variable {x vs:List Int} {n v1 v2 u0 u1 u2:Nat}
def fI.JY (h:fI x vs n v1 v2 u0 u1 u2):v1<1000000000:=by have:=gS h.gv (n-1);rw [h.eI] at this;omega
def fI.CT (h:fI x vs n v1 v2 u0 u1 u2):v2<1000000000:=by have:=gS h.gv (n-2);rw [h.cT] at this;omega
def fI.u0W (h:fI x vs n v1 v2 u0 u1 u2):u0<1000000000:=by have:=gS h.gx n;rw [h.h0] at this;omega
def fI.JZ (h:fI x vs n v1 v2 u0 u1 u2):u1<1000000000:=by have:=gS h.gx (n-1);rw [h.h1] at this;omega
def fI.J0 (h:fI x vs n v1 v2 u0 u1 u2):u2<1000000000:=by have:=gS h.gx (n-2);rw [h.h2] at this;omega
def fI.parts (h:fI x vs n v1 v2 u0 u1 u2):∃p vr ur,dv vs=(v1*1000000000+v2)*p+vr/\vr<p/\dv x=((u0*1000000000+u1)*1000000000+u2)*p+ur/\ur<p:=by
 obtain ⟨m,hm⟩:∃m,n=m+2:=⟨n-2,by have:=h.n2;omega⟩;subst hm;have e1:=nI (l:=vs) (m+1);have e2:=nI (l:=vs) m;have f0:=nI (l:=x) (m+2);have f1:=nI (l:=x) (m+1);have f2:=nI (l:=x) m;have eI:vs.getD (m+1) 0=(v1:Int):=h.eI;have cT:vs.getD m 0=(v2:Int):=h.cT;have h0:x.getD (m+2) 0=(u0:Int):=h.h0;have h1:x.getD (m+1) 0=(u1:Int):=h.h1;have h2:x.getD m 0=(u2:Int):=h.h2
 rw [yE (by have:=h.lv;omega),eI,e2,cT] at e1
 rw [yE (by have:=h.lx;omega),h0,f1,h1,f2,h2] at f0;simp only [xN] at e1 f0;have g1:=jh (By h.gv m)
 rw [yQ,xQ (by have:=h.lv;omega)] at g1;have g2:=jh (By h.gx m)
 rw [yQ,xQ (by have:=h.lx;omega)] at g2;refine ⟨1000000000^m,_,_,?_,g1,?_,g2⟩
 ·rw [e1,xg,arV]
 ·rw [f0,show 1000000000^(m+2)=1000000000^m*1000000000*1000000000 by rw [xg,xg],xg,arW]
def fI.down (h:fI x vs n v1 v2 u0 u1 u2) {t r:Nat} (ht:t*v1+r=u0*1000000000+u1) (hr:r*1000000000+u2<t*v2):dv x/dv vs<=t-1:=by
 obtain ⟨p,vr,ur,h1,h2,h3,h4⟩:=h.parts;exact W2 h1 h3 h4 ht hr
def fI.stop (h:fI x vs n v1 v2 u0 u1 u2) {t r:Nat} (jF:t<1000000000) (ht:t*v1+r=u0*1000000000+u1) (hr:1000000000<=r\/t*v2<=r*1000000000+u2):t<=dv x/dv vs+1:=by
 obtain ⟨p,vr,ur,h1,h2,h3,h4⟩:=h.parts;exact XO (by decide) h1 h2 h3 h.pos h.CT jF ht hr
def fI.first (h:fI x vs n v1 v2 u0 u1 u2):dv x/dv vs<=(u0*1000000000+u1)/v1:=by
 obtain ⟨p,vr,ur,h1,h2,h3,h4⟩:=h.parts;exact O8 h1 h3 h4 h.J0 h.pos
def fI.top (h:fI x vs n v1 v2 u0 u1 u2):u0<=v1:=by
 obtain ⟨p,vr,ur,h1,h2,h3,h4⟩:=h.parts;exact XP h1 h3 h2 h.CT h.lt
def fI.digit (h:fI x vs n v1 v2 u0 u1 u2):dv x/dv vs<1000000000:=by
 refine (xL ?_).2 h.lt;rcases xm (dv vs) with h0 | h0
 ·have:=h.lt;rw [h0] at this;simp at this
 ·exact h0
def fI.small (h:fI x vs n v1 v2 u0 u1 u2) {t r:Nat} (ht:t*v1+r=u0*1000000000+u1) (hb:1000000000<=t):r<1000000000:=by
 have h1:=h.top;have h2:=h.JZ;have h3:=yU v1 hb
 grind
end
def at2 {r u:Nat} (hr:r<1000000000) (hu:u<1000000000):r*1000000000<9223372036854775808/\r*1000000000+u<9223372036854775808:=by omega
section
variable {P:aI} {L:Lib}
def anJ {w:AV} {x vs pre post qs:List Int} {f:Int} (hw:bk w vs) {n v1 v2 u0 u1 u2 M:Nat} (hl:fI x vs n v1 v2 u0 u1 u2) (hM:M=pre.length+x.length+post.length) (Kh:M<=50000000000):
  ∀k s,(∃t r:Nat,bf [0,1,2,7,9,10] s=⟨[(0,.aE 1 0 M),(1,w),(2,aa pre.length),(7,aa n),(9,aa t),(10,aa r)],H3 qs (pre++x++post) f,3,3⟩/\t*v1+r=u0*1000000000+u1/\r<1000000000/\dv x/dv vs<=t/\t=k)->
   ∃ex s',D P L (.loop [0,1,2,7,9,10] zU) s=some (ex,s')/\∃tm ct t,s'=⟨tm,H3 qs (pre++x++post) f,ct,3⟩/\((ex= .exit 0/\aj tm 9=aa (t:Nat))\/(ex= .ret/\aj tm 6=aa (t:Nat)))/\ct=3/\t<1000000000/\dv x/dv vs<=t/\t<=dv x/dv vs+1:=by
 intro dq sq;generalize bQ:bf [0,1,2,7,9,10] sq=s0;revert bQ s0 sq dq;apply eO;rintro k s ⟨t,r,rfl,ht,hr,hQ,rfl⟩;have dT:=hl.n2;have ow:=hl.nb;have hlx:=hl.lx;have EJ:=hl.JY;have SG:=hl.CT;have adE:=hl.J0;have at3:=hl.u0W;have Nl:=hl.JZ;have AG:=hl.pos;have oE:=oW hw (i:=n-2) (by have:=hl.lv;omega);have eJ:=oW hw (i:=n-1) (by have:=hl.lv;omega);rw [hl.cT] at oE;rw [hl.eI] at eJ;have rk:=p9 (l:=pre++x++post) (o:=pre.length+(n-2)) (by rw [mJ];omega);rw [zY (by omega),hl.h2] at rk;have zj:(n:Int)-2=((n-2:Nat):Int):=by omega
 have oF:(n:Int)-1=((n-1:Nat):Int):=by omega
 have Ki:(pre.length:Int)+(n:Int)=((pre.length+n:Nat):Int):=rfl;have Vr:((pre.length+n:Nat):Int)-2=((pre.length+(n-2):Nat):Int):=by omega
 have ayv:t<=1000000000000000000:=by
  have:=yR t AG
  omega
 have ayw:t*1<=t*v1:=yR t AG;obtain ⟨Vs,Vt⟩:=at2 hr adE;by_cases rh:1000000000<=t\/r*1000000000+u2<t*v2
 ·have ht0:0<t:=by
   rcases xm t with h0 | h0
   ·subst h0;omega
   ·exact h0
  have h1:(t-1)*v1+(r+v1)=u0*1000000000+u1:=by
   obtain ⟨p,rfl⟩:∃p,t=p+1:=⟨t-1,by omega⟩;rw [we,Nat.one_mul] at ht;rw [Nat.add_sub_cancel];omega
  have zk:dv x/dv vs<=t-1:=by
   rcases rh with h | h
   ·have:=hl.digit;generalize dv x/dv vs=q at*;omega
   ·exact hl.down ht h
  have OS:((t:Nat):Int)-1=((t-1:Nat):Int):=by omega
  have stop:1000000000<=r+v1->t-1<1000000000/\t-1<=dv x/dv vs+1:=fun hb=>by
   have a6:t-1<1000000000:=by
    by_cases qP:1000000000<=t-1
    ·have:=hl.small h1 qP;omega
    ·omega
   exact ⟨a6,hl.stop a6 h1 (.inl hb)⟩
  by_cases hb:1000000000<=t
  ·by_cases eZ:1000000000<=r+v1
   ·right
    obtain ⟨s1,s2⟩:=stop eZ
    simp only [go_sem,ya,zU,H3,show (1000000000:Int)<=(t:Int) by omega,OS,wrapN (n:=t-1) (by omega),oF,wrapN (n:=n-1) (by omega),eJ,show (r:Int)+(v1:Int)=((r+v1:Nat):Int) from rfl,wrapN (n:=r+v1) (by omega),show (1000000000:Int)<=((r+v1:Nat):Int) by omega];exact ⟨_,_,rfl,by simp,_,_,t-1,rfl,.inr ⟨rfl,by simp only [go_sem]⟩,rfl,s1,zk,s2⟩
   ·left
    simp only [go_sem,ya,zU,H3,show (1000000000:Int)<=(t:Int) by omega,OS,wrapN (n:=t-1) (by omega),oF,wrapN (n:=n-1) (by omega),eJ,show (r:Int)+(v1:Int)=((r+v1:Nat):Int) from rfl,wrapN (n:=r+v1) (by omega),show ¬(1000000000:Int)<=((r+v1:Nat):Int) by omega];refine ⟨_,t-1,rfl,by omega,t-1,r+v1,?_,h1,by omega,zk,rfl⟩;rw [Lh (by simp only [go_sem,ya,yq,lz,me,lj,li,oJ hw.pu,wi]) (by simp only [go_sem,ya,yb,yq,aA hw.pu])];simp only [go_sem,ya]
  ·have AZ:=wN (show t<=999999999 by omega) (show v2<=999999999 by omega);have Tb:r*1000000000+u2<t*v2:=rh.resolve_left hb;obtain ⟨m,hm⟩:∃m,t*v2=m:=⟨_,rfl⟩;have em:(t:Int)*(v2:Int)=(m:Int):=by rw [<-hm,vd]
   rw [hm] at Tb AZ;have Fj:(r:Int)*1000000000=((r*1000000000:Nat):Int):=by omega
   have A5:((r*1000000000:Nat):Int)+(u2:Int)=((r*1000000000+u2:Nat):Int):=rfl;by_cases eZ:1000000000<=r+v1
   ·right
    obtain ⟨s1,s2⟩:=stop eZ
    simp only [go_sem,ya,yj,zU,H3,show ¬(1000000000:Int)<=(t:Int) by omega,zj,wrapN (n:=n-2) (by omega),oE,em,wrapN (n:=m) (by omega),Fj,wrapN Vs,Ki,wrapN (n:=pre.length+n) (by omega),Vr,wrapN (n:=pre.length+(n-2)) (by omega),db 1 0 (show pre.length+(n-2)<M by omega),yd,rk,A5,wrapN Vt,show ((r*1000000000+u2:Nat):Int)<(m:Int) from vW.2 Tb,OS,wrapN (n:=t-1) (by omega),oF,wrapN (n:=n-1) (by omega),eJ,show (r:Int)+(v1:Int)=((r+v1:Nat):Int) from rfl,wrapN (n:=r+v1) (by omega),show (1000000000:Int)<=((r+v1:Nat):Int) by omega];exact ⟨_,_,rfl,by simp,_,_,t-1,rfl,.inr ⟨rfl,by simp only [go_sem]⟩,rfl,s1,zk,s2⟩
   ·left
    simp only [go_sem,ya,yj,zU,H3,show ¬(1000000000:Int)<=(t:Int) by omega,zj,wrapN (n:=n-2) (by omega),oE,em,wrapN (n:=m) (by omega),Fj,wrapN Vs,Ki,wrapN (n:=pre.length+n) (by omega),Vr,wrapN (n:=pre.length+(n-2)) (by omega),db 1 0 (show pre.length+(n-2)<M by omega),yd,rk,A5,wrapN Vt,show ((r*1000000000+u2:Nat):Int)<(m:Int) from vW.2 Tb,OS,wrapN (n:=t-1) (by omega),oF,wrapN (n:=n-1) (by omega),eJ,show (r:Int)+(v1:Int)=((r+v1:Nat):Int) from rfl,wrapN (n:=r+v1) (by omega),show ¬(1000000000:Int)<=((r+v1:Nat):Int) by omega];refine ⟨_,t-1,rfl,by omega,t-1,r+v1,?_,h1,by omega,zk,rfl⟩;rw [Lh (by simp only [go_sem,ya,yq,lz,me,lj,li,oJ hw.pu,wi]) (by simp only [go_sem,ya,yb,yq,aA hw.pu])];simp only [go_sem,ya]
 ·right
  have jF:t<1000000000:=Nat.lt_of_not_le fun e=>rh (.inl e)
  have AZ:=wN (show t<=999999999 from uU jF) (show v2<=999999999 from uU SG);have Tc:t*v2<=r*1000000000+u2:=Nat.le_of_not_lt fun e=>rh (.inr e)
  have ar7:=hl.stop jF ht (.inr Tc);obtain ⟨m,hm⟩:∃m,t*v2=m:=⟨_,rfl⟩;have em:(t:Int)*(v2:Int)=(m:Int):=by rw [<-hm,vd]
  rw [hm] at Tc AZ;have Fj:(r:Int)*1000000000=((r*1000000000:Nat):Int):=by omega
  have A5:((r*1000000000:Nat):Int)+(u2:Int)=((r*1000000000+u2:Nat):Int):=rfl
  simp only [go_sem,ya,yj,zU,H3,show ¬(1000000000:Int)<=(t:Int) by omega,zj,wrapN (n:=n-2) (by omega),oE,em,wrapN (n:=m) (by omega),Fj,wrapN Vs,Ki,wrapN (n:=pre.length+n) (by omega),Vr,wrapN (n:=pre.length+(n-2)) (by omega),db 1 0 (show pre.length+(n-2)<M by omega),yd,rk,A5,wrapN Vt,show ¬((r*1000000000+u2:Nat):Int)<(m:Int) from fun e=>Nat.not_lt_of_le Tc (vW.1 e)];exact ⟨_,_,rfl,by simp,_,_,t,rfl,.inl ⟨rfl,by simp only [go_sem,ya]⟩,rfl,jF,hQ,ar7⟩
def ar8 (h:Has P L 301 sC) {w:AV} {x vs pre post qs:List Int} {f:Int} (hw:bk w vs) {n v1 v2 u0 u1 u2 M:Nat} (hl:fI x vs n v1 v2 u0 u1 u2) (hM:M=pre.length+x.length+post.length) (Kh:M<=50000000000):
  ∃t:Nat,iA P L (D P L) (H3 qs (pre++x++post) f) 3 301 [.aE 1 0 M,w,aa pre.length]=some (aa t,H3 qs (pre++x++post) f,3)/\t<1000000000/\dv x/dv vs<=t/\t<=dv x/dv vs+1:=by
 have dT:=hl.n2;have ow:=hl.nb;have hlx:=hl.lx;have rm:below 3 w:=oJ hw.pu;have EJ:=hl.JY;have at3:=hl.u0W;have Nl:=hl.JZ;have AG:=hl.pos;have eJ:=oW hw (i:=n-1) (by have:=hl.lv;omega);rw [hl.eI] at eJ;have A7:=p9 (l:=pre++x++post) (o:=pre.length+n) (by rw [mJ];omega);rw [zY (by omega),hl.h0] at A7;have A8:=p9 (l:=pre++x++post) (o:=pre.length+(n-1)) (by rw [mJ];omega);rw [zY (by omega),hl.h1] at A8;have oF:(n:Int)-1=((n-1:Nat):Int):=by omega
 have Ki:(pre.length:Int)+(n:Int)=((pre.length+n:Nat):Int):=rfl;have pn1:((pre.length+n:Nat):Int)-1=((pre.length+(n-1):Nat):Int):=by omega
 obtain ⟨m,hm⟩:∃m,m=u0*1000000000+u1:=⟨_,rfl⟩;have em:(u0:Int)*1000000000=((u0*1000000000:Nat):Int):=by omega
 have em2:((u0*1000000000:Nat):Int)+(u1:Int)=(m:Int):=by omega
 have eU:=xO m v1;have n8:=xv m AG;have LW:=hl.first;rw [<-hm] at LW;have ayJ:m/v1<=m:=Nat.div_le_self _ _;have oq:IntKind.wrap .i64 ((m:Int).tdiv (v1:Int))=((m/v1:Nat):Int):=by
  rw [xS (by omega),<-Int.natCast_ediv,wrapN (by omega)]
 have or':(m:Int).tmod (v1:Int)=((m%v1:Nat):Int):=by rw [xB (by omega),<-Int.natCast_emod]
 rw [xz] at eU;generalize m/v1=q0 at*
 generalize m%v1=r0 at*
 have iD:∃ex tm t,D P L sC.body ⟨fm 0 [.aE 1 0 M,w,aa pre.length],H3 qs (pre++x++post) f,3,3⟩=some (ex,⟨tm,H3 qs (pre++x++post) f,3,3⟩)/\(ex= .normal\/ex= .ret)/\aj tm 6=aa (t:Nat)/\t<1000000000/\dv x/dv vs<=t/\t<=dv x/dv vs+1:=by
  simp only [go_sem,ya,yj,sC,H3,hw.len,hl.lv,Ki,wrapN (n:=pre.length+n) (by omega),db 1 0 (show pre.length+n<M by omega),yd,A7,em,wrapN (n:=u0*1000000000) (by omega),pn1,wrapN (n:=pre.length+(n-1)) (by omega),db 1 0 (show pre.length+(n-1)<M by omega),A8,em2,wrapN (n:=m) (by omega),oF,wrapN (n:=n-1) (by omega),eJ,eV _ _ _ (show (v1:Int)≠0 by omega),fo _ _ _ (show (v1:Int)≠0 by omega),oq,or'];generalize lX:D P L (.loop [0,1,2,7,9,10] zU) _=qq;obtain ⟨ex,s,rfl,tm,ct,t,rfl,Aw,rfl,g1,g2,g3⟩:=bI lX (anJ (P:=P) (L:=L) (qs:=qs) (f:=f) hw hl hM Kh q0) ⟨q0,r0,by
   rw [Lh (by simp only [go_sem,ya,yq,lz,me,lj,li,rm,wi]) (by simp only [go_sem,ya,yb,yq,aA hw.pu])]
   simp only [go_sem,ya],by omega,by omega,LW,rfl⟩
  rcases Aw with ⟨rfl,h9⟩ | ⟨rfl,h6⟩
  ·simp only [go_sem,yq,H3,Lh,lz,lj,li,h9,and_self];exact ⟨_,_,t,rfl,.inr rfl,by simp only [go_sem],g1,g2,g3⟩
  ·simp only [go_sem];exact ⟨_,_,t,rfl,.inr rfl,h6,g1,g2,g3⟩
 obtain ⟨ex,tm,t,g1,g2,g3,g4,g5,g6⟩:=iD;exact ⟨t,ZK h g1 g2 (by show iv _ [RV.t 6]=_;rw [Sx,RD,g3]),g4,g5,g6⟩
end
end
section
open Go (IntKind)
def at4 {t v bo:Int} (ht:0<=t/\t<1000000000) (hv:0<=v/\v<1000000000) (hb:0<=bo/\bo<1000000000):0<=t*v/\t*v<=999999998000000001/\0<=t*v+bo/\t*v+bo<=999999999000000000:=by
 have h1:=yaG ht.1 hv.1;have h2:=Int.mul_le_mul (show t<=999999999 by omega) (show v<=999999999 by omega) hv.1 (by decide);omega
def at5 {x p:Int} (hx:0<=x/\x<1000000000) (hp:0<=p/\p<=999999999000000000):
  (x-p.tmod 1000000000<0->0<=x-p.tmod 1000000000+1000000000/\x-p.tmod 1000000000+1000000000<1000000000/\0<=p.tdiv 1000000000+1/\p.tdiv 1000000000+1<1000000000/\x-p.tmod 1000000000+1000000000+p=x+1000000000*(p.tdiv 1000000000+1))/\
  (¬x-p.tmod 1000000000<0->x-p.tmod 1000000000<1000000000/\0<=p.tdiv 1000000000/\p.tdiv 1000000000<1000000000/\x-p.tmod 1000000000+p=x+1000000000*p.tdiv 1000000000):=by grind
def Qw {l:List Int} (h:dg l) {i:Nat} {z:Int} (hz:0<=z/\z<1000000000):dg (l.set i z):=LR h hz
def anK {b p z q v bo zm x X Y S:Int} (h2:z+(q*v+bo)=x+b*zm) (h3:Y+q*X=S+p*bo):(Y+p*(z-x))+q*(X+p*v)=S+p*b*zm:=by grind
section
variable {P:aI} {L:Lib}
def anL {w:AV} {x vs pre post qs:List Int} {f:Int} (hw:bk w vs) {n M m:Nat} (lv:vs.length=n) (hM:M=pre.length+(n+1)+post.length) (Kh:M<=50000000000) (gv:dg vs) {t:Int} (ht:0<=t/\t<1000000000):
  ∀k s,(∃(i:Nat) (bo:Int) (y:List Int),bf [8,9,10,11,12,13,14,15,16] s=⟨[(8,.aE 0 0 1),(9,w),(10,aa n),(11,.aE 1 0 M),(12,.aE 2 0 m),(13,aa pre.length),(14,aa t),(15,aa bo),(16,aa i)],H3 qs (pre++y++post) f,3,0⟩/\i+k=n/\y.length=n+1/\dg y/\(0<=bo/\bo<1000000000)/\
    sv y+t*sv (vs.take i)=sv x+1000000000^i*bo)->
   ∃ex s',D P L (.loop [8,9,10,11,12,13,14,15,16] DU) s=some (ex,s')/\∃tm bo y,s'=⟨tm,H3 qs (pre++y++post) f,3,0⟩/\ex= .exit 4/\aj tm 8= .aE 0 0 1/\aj tm 9=w/\aj tm 10=aa n/\aj tm 11= .aE 1 0 M/\aj tm 12= .aE 2 0 m/\aj tm 13=aa pre.length/\aj tm 14=aa t/\aj tm 15=aa bo/\y.length=n+1/\dg y/\(0<=bo/\bo<1000000000)/\
    sv y+t*sv vs=sv x+1000000000^n*bo:=by
 intro dq sq;generalize bQ:bf [8,9,10,11,12,13,14,15,16] sq=s0;revert bQ s0 sq dq;apply eO;rintro k s ⟨i,bo,y,rfl,hk,ly,gy,iJ,aQ⟩;by_cases hi:i<n
 ·left
  have pC:=gS gv i;have oG:=gS gy i;have ev:=oW hw (i:=i) (by omega);have ey:=p9 (l:=pre++y++post) (o:=pre.length+i) (by rw [mJ];omega);rw [zY (by omega)] at ey;have dS:=LK (l:=vs) i;obtain ⟨a,ha⟩:∃a,a=vs.getD i 0:=⟨_,rfl⟩;obtain ⟨d,hd⟩:∃d,d=y.getD i 0:=⟨_,rfl⟩;rw [<-ha] at pC ev dS;rw [<-hd] at oG ey;obtain ⟨p1,p2,p3,p4⟩:=at4 ht pC iJ;obtain ⟨s1,s2⟩:=at5 oG ⟨p3,p4⟩;have eL:(i:Int)+(pre.length:Int)=((pre.length+i:Nat):Int):=by omega
  have aR:=fun (hp:Hp) (ct:Nat) (z:Int)=>Bg (hp:=hp) (ct:=ct) (id:=1) (v:=z) (ex:=false) (l:=pre++y++post) (o:=pre.length+i) (by rw [mJ];omega)
  have mQ:=fun z=>LY (pre:=pre) (x:=y) (post:=post) (i:=i) z (by omega)
  have bh:=fun z=>D6 (l:=y) (i:=i) (x:=z) (by omega)
  rw [<-hd] at bh;obtain ⟨pr,mX⟩:∃pr,pr=t*a+bo:=⟨_,rfl⟩;obtain ⟨dm,eU⟩:∃dm,pr.tmod 1000000000=dm:=⟨_,rfl⟩;obtain ⟨dq,CX⟩:∃dq,pr.tdiv 1000000000=dq:=⟨_,rfl⟩;have ayK:0<=dm/\dm<1000000000:=by rw [<-eU,xB (by omega)];omega
  have ayL:0<=dq/\dq<1000000000:=by rw [<-CX,xS (by omega)];omega
  rw [<-mX,eU,CX] at s1 s2;have key:∀z zm,z+(t*a+bo)=d+1000000000*zm->sv (y.set i z)+t*sv (vs.take (i+1))=sv x+1000000000^(i+1)*zm:=fun z zm h=>by
   rw [bh,dS,uE];exact anK h aQ
  rw [<-mX] at key;by_cases fk:d-dm<0
  ·obtain ⟨q1,q2,q3,q4,q5⟩:=s1 fk;have kk:=key _ _ q5;obtain ⟨dr,iI⟩:∃dr,d-dm=dr:=⟨_,rfl⟩;rw [iI] at fk kk q1 q2
   simp only [go_sem,ya,yj,DU,H3,show (i:Int)<(n:Int) by omega,ev,wrap64 (n:=t*a) (by omega) (by omega),<-mX,wrap64 (n:=pr) (by omega) (by omega),eL,wrapN (n:=pre.length+i) (by omega),db 1 0 (show pre.length+i<M by omega),yd,ey,fo _ _ _ (show (1000000000:Int)≠0 by decide),eV _ _ _ (show (1000000000:Int)≠0 by decide),eU,CX,iI,wrap64 (n:=dr) (by omega) (by omega),wrap64 (n:=dq) (by omega) (by omega),fk,wrap64 (n:=dr+1000000000) (by omega) (by omega),wrap64 (n:=dq+1) (by omega) (by omega),aR,mQ];refine ⟨_,k-1,rfl,by omega,i+1,dq+1,y.set i (dr+1000000000),?_,by omega,by simp [ly],Qw gy ⟨q1,q2⟩,⟨q3,q4⟩,kk⟩;rw [wrap64 (by omega) (by omega)];simp only [go_sem,ya,yb,ao,aA hw.pu,aF _ hw.pu]<;>rfl
  ·obtain ⟨q2,q3,q4,q5⟩:=s2 fk;have kk:=key _ _ q5;obtain ⟨dr,iI⟩:∃dr,d-dm=dr:=⟨_,rfl⟩;rw [iI] at fk kk q2
   simp only [go_sem,ya,yj,DU,H3,show (i:Int)<(n:Int) by omega,ev,wrap64 (n:=t*a) (by omega) (by omega),<-mX,wrap64 (n:=pr) (by omega) (by omega),eL,wrapN (n:=pre.length+i) (by omega),db 1 0 (show pre.length+i<M by omega),yd,ey,fo _ _ _ (show (1000000000:Int)≠0 by decide),eV _ _ _ (show (1000000000:Int)≠0 by decide),eU,CX,iI,wrap64 (n:=dr) (by omega) (by omega),wrap64 (n:=dq) (by omega) (by omega),fk,aR,mQ];refine ⟨_,k-1,rfl,by omega,i+1,dq,y.set i dr,?_,by omega,by simp [ly],Qw gy ⟨by omega,q2⟩,⟨q3,q4⟩,kk⟩;rw [wrap64 (by omega) (by omega)];simp only [go_sem,ya,yb,ao,aA hw.pu,aF _ hw.pu]<;>rfl
 ·right
  have:i=n:=by omega
  subst this;rw [yE (by omega)] at aQ;simp only [go_sem,ya,DU,H3,show ¬(i:Int)<(i:Int) by omega];exact ⟨_,_,rfl,by simp,_,bo,y,rfl,rfl,by simp only [go_sem,ya],by simp only [go_sem,ya],by simp only [go_sem,ya],by simp only [go_sem,ya],by simp only [go_sem,ya],by simp only [go_sem,ya],by simp only [go_sem,ya],by simp only [go_sem,ya],ly,gy,iJ,aQ⟩
def anM {b p z v c c' x X Y S:Int} (h2:z+b*c'=x+v+c) (h3:Y+p*c=S+X):(Y+p*(z-x))+p*b*c'=S+(X+p*v):=by grind
def anN {w:AV} {y0 vs pre post qs:List Int} {f:Int} (hw:bk w vs) {n M m:Nat} (lv:vs.length=n) (hM:M=pre.length+(n+1)+post.length) (Kh:M<=50000000000) (gv:dg vs) {t top:Int}:
  ∀k s,(∃(i:Nat) (c:Int) (y:List Int),bf [8,9,10,11,12,13,14,19,20] s=⟨[(8,.aE 0 0 1),(9,w),(10,aa n),(11,.aE 1 0 M),(12,.aE 2 0 m),(13,aa pre.length),(14,aa t),(19,aa c),(20,aa i)],H3 qs (pre++y++post) f,3,0⟩/\i+k=n/\y.length=n+1/\dg (y.take n)/\y.getD n 0=top/\(0<=c/\c<=1)/\
    sv y+1000000000^i*c=sv y0+sv (vs.take i))->
   ∃ex s',D P L (.loop [8,9,10,11,12,13,14,19,20] HB) s=some (ex,s')/\∃tm c y,s'=⟨tm,H3 qs (pre++y++post) f,3,0⟩/\ex= .exit 6/\aj tm 8= .aE 0 0 1/\aj tm 9=w/\aj tm 10=aa n/\aj tm 11= .aE 1 0 M/\aj tm 12= .aE 2 0 m/\aj tm 13=aa pre.length/\aj tm 14=aa t/\aj tm 19=aa c/\y.length=n+1/\dg (y.take n)/\y.getD n 0=top/\(0<=c/\c<=1)/\
    sv y+1000000000^n*c=sv y0+sv vs:=by
 intro dq sq;generalize bQ:bf [8,9,10,11,12,13,14,19,20] sq=s0;revert bQ s0 sq dq;apply eO;rintro k s ⟨i,c,y,rfl,hk,ly,gy,mR,hc,aQ⟩;by_cases hi:i<n
 ·left
  have pC:=gS gv i;have oG:=gS gy i;have e0:(y.take n).getD i 0=y.getD i 0:=by
   simp [xU,hi]
  rw [e0] at oG;have ev:=oW hw (i:=i) (by omega);have ey:=p9 (l:=pre++y++post) (o:=pre.length+i) (by rw [mJ];omega);rw [zY (by omega)] at ey;have dS:=LK (l:=vs) i;obtain ⟨a,ha⟩:∃a,a=vs.getD i 0:=⟨_,rfl⟩;obtain ⟨d,hd⟩:∃d,d=y.getD i 0:=⟨_,rfl⟩;rw [<-ha] at pC ev dS;rw [<-hd] at oG ey;have eL:(i:Int)+(pre.length:Int)=((pre.length+i:Nat):Int):=by omega
  have bh:=fun z=>D6 (l:=y) (i:=i) (x:=z) (by omega)
  rw [<-hd] at bh;have n8:(d+a+c).tmod 1000000000=(d+a+c)%1000000000:=xB (by omega);have hdiv:(d+a+c).tdiv 1000000000=(d+a+c)/1000000000:=xS (by omega);obtain ⟨z,hz⟩:∃z,z=(d+a+c)%1000000000:=⟨_,rfl⟩;obtain ⟨c',oD⟩:∃z,z=(d+a+c)/1000000000:=⟨_,rfl⟩;have TK:z+1000000000*c'=d+a+c:=by omega
  rw [<-hz] at n8;rw [<-oD] at hdiv;have aR:=fun (hp:Hp) (ct:Nat)=>Bg (hp:=hp) (ct:=ct) (id:=1) (v:=z) (ex:=false) (l:=pre++y++post) (o:=pre.length+i) (by rw [mJ];omega)
  have mQ:=LY (pre:=pre) (x:=y) (post:=post) (i:=i) z (by omega)
  simp only [go_sem,ya,yj,HB,H3,show (i:Int)<(n:Int) by omega,ev,eL,wrapN (n:=pre.length+i) (by omega),db 1 0 (show pre.length+i<M by omega),yd,ey,wrap64 (n:=d+a) (by omega) (by omega),wrap64 (n:=d+a+c) (by omega) (by omega),fo _ _ _ (show (1000000000:Int)≠0 by decide),eV _ _ _ (show (1000000000:Int)≠0 by decide),n8,hdiv,wrap64 (n:=c') (by omega) (by omega),aR,mQ];refine ⟨_,k-1,rfl,by omega,i+1,c',y.set i z,?_,by omega,by simp [ly],?_,by rw [abm (by omega)];exact mR,⟨by omega,by omega⟩,?_⟩
  ·rw [wrap64 (by omega) (by omega)];simp only [go_sem,ya,yb,ao,aA hw.pu,aF _ hw.pu]<;>rfl
  ·rw [uZ];exact Qw gy ⟨by omega,by omega⟩
  ·rw [bh,dS,uE];exact anM TK aQ
 ·right
  have:i=n:=by omega
  subst this;rw [yE (show vs.length<=i by omega)] at aQ;simp only [go_sem,ya,HB,H3,show ¬(i:Int)<(i:Int) by omega];exact ⟨_,_,rfl,by simp,_,c,y,rfl,rfl,by simp only [go_sem,ya],by simp only [go_sem,ya],by simp only [go_sem,ya],by simp only [go_sem,ya],by simp only [go_sem,ya],by simp only [go_sem,ya],by simp only [go_sem,ya],by simp only [go_sem,ya],ly,gy,mR,hc,aQ⟩
def anO {A V t:Nat} {y:List Int} {n:Nat} (hV:0<V) (ly:y.length=n+1) (gy:dg (y.take n)) (h:sv y=(A:Int)-t*V) (h1:A/V<=t) (h2:t<=A/V+1):
  (¬y.getD n 0<0->t=A/V/\sv y=((A%V:Nat):Int))/\(y.getD n 0<0->t=A/V+1/\sv y+V=((A%V:Nat):Int)):=by
 have eU:=xO A V;have hm:=xv A hV;have dS:=LK (l:=y) n;rw [yE (by omega),sn gy] at dS;have I7:=jh gy;have hp:(0:Int)<1000000000^n:=ybw (by decide);generalize y.getD n 0=top at*
 generalize A/V=Q at*
 have hq:t=Q\/t=Q+1:=by omega
 constructor
 ·intro h0;have h3:0<=(1000000000:Int)^n*top:=yaG (uF hp) (by omega);rcases hq with rfl | rfl
  ·grind
  ·grind
 ·intro h0;have h3:(1000000000:Int)^n*top<=-(1000000000^n):=by
   have:=vC (show top<=-1 by omega) (uF hp)
   grind
  rcases hq with rfl | rfl
  ·grind
  ·grind
def YV {y:List Int} {n:Nat} (ly:y.length=n+1) (gy:dg (y.take n)) (h0:0<=sv y) (h1:sv y<1000000000^n):y.getD n 0=0/\dg y/\sv y=dv y:=by
 have dS:=LK (l:=y) n;rw [yE (by omega),sn gy] at dS;have I7:=jh gy;rw [yQ,xQ (by omega)] at I7;have hp:(0:Int)<1000000000^n:=ybw (by decide);have Ee:((1000000000^n:Nat):Int)=(1000000000:Int)^n:=by simp
 have ayx:(dv (y.take n):Int)<1000000000^n:=by omega
 have ht:y.getD n 0=0:=by
  generalize y.getD n 0=top at*
  rcases Int.lt_trichotomy top 0 with h | h | h
  ·have:=vC (show top<=-1 by omega) (uF hp)
   grind
  ·grind
  ·have:=vC (show 1<=top by omega) (uF hp)
   grind
 have hg:dg y:=by
  have e:y=y.take n++[0]:=by
   have h1:y=y.take n++y.drop n:=(xP n y).symm;have h2:y.drop n=[0]:=by
    rw [yJ (by omega),yP (by omega)]
    grind
   grind
  rw [e];exact gB.2 ⟨gy,jc.2 ⟨by decide,by decide⟩⟩
 exact ⟨ht,hg,sn hg⟩
end
end
section
open Go (IntKind)
def anP {l:List Int} {i:Nat} (h:i<l.length):dv (l.drop i)=(l.getD i 0).toNat+1000000000*dv (l.drop (i+1)):=by
 rw [yJ h]
 have:l[i]=l.getD i 0:=by simp_all
 rw [this];rfl
def P8 (l:List Int) (i:Nat) (h:i<=l.length):dv l=dv (l.take i)+1000000000^i*dv (l.drop i):=by
 conv=>lhs;rw [<-xP i l]
 rw [kZ,yQ,xQ h]
def anQ {sx sy sV:Int} {p:Int} {bo t:Int} {yn z:Int} {szy:Int} (h1:sy+t*sV=sx+p*bo) (h2:szy=sy+p*(z-yn)) (h3:z=yn-bo):szy=sx-t*sV:=by grind
section
variable {P:aI} {L:Lib}
def anR (pc:Has P L 301 sC) {w:AV} {vs:List Int} {f:Int} (hw:bk w vs) (gv:dg vs) {n M m:Nat} (lv:vs.length=n) (dT:2<=n) (hnM:n<M) (Kh:M<=20000000000) (hm:m=M-n) (eI:0<vs.getD (n-1) 0) {U0:Nat}:
  ∀k st,(∃(j:Nat) (us qs:List Int),bf [8,9,10,11,12,13] st=⟨[(8,.aE 0 0 1),(9,w),(10,aa n),(11,.aE 1 0 M),(12,.aE 2 0 m),(13,aa ((j:Int)-1))],H3 qs us f,3,0⟩/\j=k/\j<=m/\us.length=M/\qs.length=m/\dg us/\dg qs/\(∀i,i<j->qs.getD i 0=0)/\
    dv us+dv qs*dv vs=U0/\dv (us.drop j)<dv vs)->
   ∃ex st',D P L (.loop [8,9,10,11,12,13] HC) st=some (ex,st')/\∃tm us qs,st'=⟨tm,H3 qs us f,3,0⟩/\ex= .exit 2/\aj tm 8= .aE 0 0 1/\aj tm 10=aa n/\aj tm 11= .aE 1 0 M/\aj tm 12= .aE 2 0 m/\us.length=M/\qs.length=m/\dg us/\dg qs/\
    dv us+dv qs*dv vs=U0/\dv us<dv vs:=by
 intro dq sq;generalize bQ:bf [8,9,10,11,12,13] sq=s0;revert bQ s0 sq dq;apply eO;rintro k st ⟨j,us,qs,rfl,rfl,hj,lu,lq,gu,gq,hz,aQ,mR⟩
 cases j with
 | zero=>
  right
  simp only [go_sem,ya,HC,H3,show ¬(0:Int)<=((0:Nat):Int)-1 by omega];exact ⟨_,_,rfl,by simp,_,us,qs,rfl,rfl,by simp only [go_sem,ya],by simp only [go_sem,ya],by simp only [go_sem,ya],by simp only [go_sem,ya],lu,lq,gu,gq,aQ,by simpa using mR⟩
 | succ j=>
  left
  obtain ⟨pre,eL⟩:∃p,p=us.take j:=⟨_,rfl⟩;obtain ⟨x,hx⟩:∃p,p=(us.drop j).take (n+1):=⟨_,rfl⟩;obtain ⟨post,fT⟩:∃p,p=us.drop (j+(n+1)):=⟨_,rfl⟩;have lp:pre.length=j:=by rw [eL,yQ];omega
  have lx:x.length=n+1:=by rw [hx,yQ,xY];omega
  have lpo:M=pre.length+(n+1)+post.length:=by rw [lp,fT,xY];omega
  have jv:us=pre++x++post:=by
   rw [eL,hx,fT,<-wQ,xC,xP,xP]
  have gpo:dg post:=by
   have:=gu;rw [jv] at this;exact (gB.1 this).2
  have gpx:=by have:=gu;rw [jv] at this;exact (gB.1 this).1
  have gx:dg x:=(gB.1 gpx).2;have SJ:dg pre:=(gB.1 gpx).1;have hA:=anP (l:=us) (i:=j) (by omega);have hgj:=gS gu j;have Fl:us.drop j=x++post:=by rw [fT,hx,<-wQ,xP]
  have zn:dv (us.drop j)=dv x+1000000000^(n+1)*dv post:=by rw [Fl,kZ,lx]
  have J3:=jh gv;rw [lv] at J3;have a6:dv (us.drop j)<1000000000*dv vs:=by omega
  have hp0:dv post=0:=by
   rcases xm (dv post) with e | e
   ·exact e
   ·have h1:=yR (1000000000^(n+1)) e;rw [yj,xg] at h1;rw [xg] at zn;omega
  rw [hp0,xE,yV] at zn;have Kj:=fun (l:List Int) (hl:dg l) (i:Nat)=>gS hl i
  obtain ⟨v1,eJ⟩:∃v:Nat,vs.getD (n-1) 0=v:=⟨(vs.getD (n-1) 0).toNat,by have:=Kj vs gv (n-1);omega⟩;obtain ⟨v2,oE⟩:∃v:Nat,vs.getD (n-2) 0=v:=⟨(vs.getD (n-2) 0).toNat,by have:=Kj vs gv (n-2);omega⟩;obtain ⟨u0,A7⟩:∃v:Nat,x.getD n 0=v:=⟨(x.getD n 0).toNat,by have:=Kj x gx n;omega⟩;obtain ⟨u1,A8⟩:∃v:Nat,x.getD (n-1) 0=v:=⟨(x.getD (n-1) 0).toNat,by have:=Kj x gx (n-1);omega⟩;obtain ⟨u2,rk⟩:∃v:Nat,x.getD (n-2) 0=v:=⟨(x.getD (n-2) 0).toNat,by have:=Kj x gx (n-2);omega⟩;have hl:fI x vs n v1 v2 u0 u1 u2:=⟨dT,by omega,lx,lv,gx,gv,eJ,oE,A7,A8,rk,by omega,by rw [<-zn];exact a6⟩
  have Nn:=hl.digit;have pz:0<dv vs:=by omega
  have n8:=xv (dv x) pz;obtain ⟨t,e1,ht1,Uh,ht3⟩:=ar8 (P:=P) (L:=L) pc hw hl (pre:=pre) (post:=post) (qs:=qs) (f:=f) (M:=M) (by omega) (by omega);rw [<-jv,lp] at e1;have U2:dv us=dv pre+1000000000^j*dv x:=by
   have:=P8 us j (by omega)
   rw [zn,<-eL] at this;exact this
  have SK:∀y,dv (pre++y++post)=dv pre+1000000000^j*dv y:=fun y=>by
   rw [xC,kZ,kZ,hp0,xE,yV,lp]
  have kI:=XW (b:=0) U2 aQ;have rm:below 3 w:=oJ hw.pu;have bh:=D6 (l:=qs) (i:=j) (x:=((dv x/dv vs:Nat):Int)) (by omega);have gq':dg (qs.set j ((dv x/dv vs:Nat):Int)):=LR gq ⟨uR _,vW.2 Nn⟩;rw [hz j (by omega),Int.sub_zero,sn gq,sn gq'] at bh;have bh:dv (qs.set j ((dv x/dv vs:Nat):Int))=dv qs+1000000000^j*(dv x/dv vs):=by
   have Ee:((1000000000^j*(dv x/dv vs):Nat):Int)=(1000000000:Int)^j*((dv x/dv vs:Nat):Int):=by rw [vd];simp
   rw [<-Ee] at bh;exact tO (by rw [tJ,tJ,bh,yar])
  have fin:∀(s':St) (x':List Int),bf [8,9,10,11,12,13] s'=⟨[(8,.aE 0 0 1),(9,w),(10,aa n),(11,.aE 1 0 M),(12,.aE 2 0 m),(13,aa ((j:Int)-1))],H3 (qs.set j ((dv x/dv vs:Nat):Int)) (pre++x'++post) f,3,0⟩->x'.length=n+1->dg x'->sv x'=((dv x%dv vs:Nat):Int)->
    ∃(j':Nat) (us qs:List Int),bf [8,9,10,11,12,13] s'=⟨[(8,.aE 0 0 1),(9,w),(10,aa n),(11,.aE 1 0 M),(12,.aE 2 0 m),(13,aa ((j':Int)-1))],H3 qs us f,3,0⟩/\j'=j/\j'<=m/\us.length=M/\qs.length=m/\dg us/\dg qs/\(∀i,i<j'->qs.getD i 0=0)/\dv us+dv qs*dv vs=U0/\dv (us.drop j')<dv vs:=fun s' x' hc U1 OD J6=>by
   have ad9:dv x'=dv x%dv vs:=by rw [sn OD] at J6;exact tO J6
   refine ⟨j,_,_,hc,rfl,by omega,by rw [mJ,U1];omega,by simp [lq],gB.2 ⟨gB.2 ⟨SJ,OD⟩,gpo⟩,gq',fun i hi=>by rw [abm (by omega)];exact hz i (by omega),?_,?_⟩
   ·rw [SK,ad9,bh];exact kI
   ·rw [xC,List.drop_left' lp,kZ,hp0,xE,yV,ad9];exact n8
  have aea:=fun (z:Int) (hp:Hp) (ct:Nat)=>Bg (hp:=hp) (ct:=ct) (id:=2) (v:=z) (ex:=true) (l:=qs) (o:=j) (by omega)
  have svx:=sn gx;have svv:=sn gv;simp only [H3] at e1;simp only [go_sem,ya,HC,H3,show ((j+1:Nat):Int)-1=(j:Int) by omega,show (0:Int)<=(j:Int) by omega,acQ,e1];generalize lX:D P L (.loop [8,9,10,11,12,13,14,15,16] DU) _=qq;obtain ⟨ex,s,rfl,tm,bo,y,rfl,rfl,t8,t9,t10,t11,t12,t13,t14,t15,ly,gy,iJ,hv⟩:=bI lX (anL (P:=P) (L:=L) (x:=x) (pre:=pre) (post:=post) (qs:=qs) (f:=f) (m:=m) (M:=M) hw lv lpo (by omega) gv (t:=t) (by omega) n) ⟨0,0,x,by
   rw [jv,lp]
   simp only [go_sem,ya,yb,ao,aA hw.pu,aF _ hw.pu]<;>rfl,by omega,lx,gx,by omega,by simp [sv]⟩
  rw [lp] at t13;have hyn:=gS gy n;have Vu:=p9 (l:=pre++y++post) (o:=pre.length+n) (by rw [mJ];omega);rw [zY (by omega),lp] at Vu;obtain ⟨z,Vv⟩:∃z,z=y.getD n 0-bo:=⟨_,rfl⟩;have El:=fun (hp:Hp) (ct:Nat)=>Bg (hp:=hp) (ct:=ct) (id:=1) (v:=z) (ex:=false) (l:=pre++y++post) (o:=j+n) (by rw [mJ];omega)
  have mQ:=LY (pre:=pre) (x:=y) (post:=post) (i:=n) z (by omega);rw [lp] at mQ;rw [mQ] at El;have mr:=D6 (l:=y) (i:=n) (x:=z) (by omega);have Mz:=anQ hv mr Vv;have A6:(y.set n z).length=n+1:=by simp [ly]
  have CU:dg ((y.set n z).take n):=by
   have:(y.set n z).take n=y.take n:=by rw [uZ,uX (by simp;omega)]
   rw [this];exact By gy n
  rw [svx,svv] at Mz;obtain ⟨s0,s1⟩:=anO pz A6 CU Mz Uh ht3;have eg:(y.set n z).getD n 0=z:=ajt (by omega);rw [eg] at s0 s1;have Vw:=p9 (l:=pre++y.set n z++post) (o:=pre.length+n) (by rw [mJ];omega);rw [zY (by omega),lp,eg] at Vw;generalize y.set n z=y1 at*
  have hpn:((10^9:Int))=1000000000:=by decide
  by_cases fk:z<0
  ·obtain ⟨f1,f2⟩:=s1 fk
   simp only [go_sem,ya,yb,yj,ao,aA hw.pu,aF _ hw.pu,t8,t9,t10,t11,t12,t13,t14,t15,show (j:Int)+(n:Int)=((j+n:Nat):Int) from rfl,wrapN (n:=j+n) (by omega),db 1 0 (show j+n<M by omega),yd,Vu,<-Vv,wrap64 (n:=z) (by omega) (by omega),El,Vw,fk];generalize Cw:D P L (.loop [8,9,10,11,12,13,14,19,20] HB) _=UU;obtain ⟨ex,s,rfl,qJ,c,y2,rfl,rfl,t8,t9,t10,t11,t12,t13,t14,t19,UX,OB,acW,hc,cT⟩:=bI Cw (anN (P:=P) (L:=L) (y0:=y1) (pre:=pre) (post:=post) (qs:=qs) (f:=f) (m:=m) (M:=M) (t:=(t:Int)-1) (top:=z) hw lv lpo (by omega) gv n) ⟨0,0,y1,by
    rw [lp,wrap64 (n:=(t:Int)-1) (by omega) (by omega)]
    simp only [go_sem,ya,yb,ao,aA hw.pu,aF _ hw.pu]<;>rfl,by omega,A6,CU,eg,by omega,by simp [sv]⟩
   rw [lp] at t13;have aeb:=p9 (l:=pre++y2++post) (o:=pre.length+n) (by rw [mJ];omega);rw [zY (by omega),lp,acW] at aeb;have Nk:=fun (hp:Hp) (ct:Nat)=>Bg (hp:=hp) (ct:=ct) (id:=1) (v:=z+c) (ex:=false) (l:=pre++y2++post) (o:=j+n) (by rw [mJ];omega)
   have Mm:=LY (pre:=pre) (x:=y2) (post:=post) (i:=n) (z+c) (by omega);rw [lp] at Mm;rw [Mm] at Nk;have zb:=D6 (l:=y2) (i:=n) (x:=z+c) (by omega);rw [acW,show z+c-z=c by omega,cT,svv,f2] at zb;have J4:(y2.set n (z+c)).length=n+1:=by simp [UX]
   have OC:dg ((y2.set n (z+c)).take n):=by
    have:(y2.set n (z+c)).take n=y2.take n:=by rw [uZ,uX (by simp;omega)]
    rw [this];exact OB
   have Vx:((dv x%dv vs:Nat):Int)<1000000000^n:=by
    have Ee:((1000000000^n:Nat):Int)=(1000000000:Int)^n:=by simp
    rw [<-Ee];omega
   obtain ⟨g1,g2,g3⟩:=YV J4 OC (by rw [zb];omega) (by rw [zb];exact Vx)
   generalize y2.set n (z+c)=y3 at*
   have ft:(t:Int)-1=((dv x/dv vs:Nat):Int):=by rw [f1];omega
   simp only [go_sem,ya,yb,yj,ao,aA hw.pu,aF _ hw.pu,t8,t9,t10,t11,t12,t13,t14,t19,show (j:Int)+(n:Int)=((j+n:Nat):Int) from rfl,wrapN (n:=j+n) (by omega),db 1 0 (show j+n<M by omega),yd,aeb,wrap64 (n:=z+c) (by omega) (by omega),Nk,db 2 0 (show j<m by omega),aea];rw [ft];refine ⟨_,j,rfl,by omega,fin _ y3 ?_ J4 g2 zb⟩;rw [wrap64 (by omega) (by omega)];simp only [go_sem,ya,yb,ao,aA hw.pu,aF _ hw.pu]<;>rfl
  ·obtain ⟨f1,f2⟩:=s0 fk;have Vx:((dv x%dv vs:Nat):Int)<1000000000^n:=by
    have Ee:((1000000000^n:Nat):Int)=(1000000000:Int)^n:=by simp
    rw [<-Ee];omega
   obtain ⟨g1,g2,g3⟩:=YV A6 CU (by rw [f2];omega) (by rw [f2];exact Vx)
   simp only [go_sem,ya,yb,yj,ao,aA hw.pu,aF _ hw.pu,t8,t9,t10,t11,t12,t13,t14,t15,show (j:Int)+(n:Int)=((j+n:Nat):Int) from rfl,wrapN (n:=j+n) (by omega),db 1 0 (show j+n<M by omega),yd,Vu,<-Vv,wrap64 (n:=z) (by omega) (by omega),El,Vw,fk,db 2 0 (show j<m by omega),aea];rw [f1];refine ⟨_,j,rfl,by omega,fin _ y1 ?_ A6 g2 f2⟩;rw [wrap64 (by omega) (by omega)];simp only [go_sem,ya,yb,ao,aA hw.pu,aF _ hw.pu]<;>rfl
end
end
section
open Go (IntKind)
section
variable {P:aI} {L:Lib}
def aqu (h:Has P L 292 sB) {n:Nat} (hn:n<1000000000):ae P L 292 [aa n,aa 9] (.str (ie 9 n)):=by
 have key:=eh (P:=P) (L:=L) (live:=[0,1,5]) (a:=mG)
  (I:=fun k st=>∃(m:Nat) (s:List Nat),st=⟨[(0,aa m),(1,aa 9),(5,.str s)],[],0,0⟩/\s.length+k=9/\m<10^k/\ie 9 n=ie k m++s)
  (Q:=fun ex st=>∃tm ct,st=⟨tm,[],ct,0⟩/\ex= .exit 0/\aj tm 5= .str (ie 9 n)) ?_
 ·unfold ae;rw [au h];simp only [go_sem,sB];generalize hq:D P L (.loop [0,1,5] mG) _=q;obtain ⟨ex,st,rfl,tm,ct,rfl,rfl,h2⟩:=bI hq (key 9) ⟨n,[],by simp only [go_sem,ya,ao]<;>rfl,rfl,by omega,by simp⟩
  simp only [go_sem,ao,h2]
 ·rintro k st ⟨m,s,rfl,hk,hm,hs⟩
  cases k with
  | zero=>
   right
   have OI:m=0:=by simpa using hm
   subst OI;simp only [go_sem,ya,mG,show ¬(0:Int)<((0:Nat):Int) by omega,show ¬((s.length:Nat):Int)<9 by omega];refine ⟨_,_,rfl,by simp,_,_,rfl,rfl,?_⟩;rw [hs];rfl
  | succ k=>
   left
   have hr:((m:Int)).tmod 10=((m%10:Nat):Int):=by rw [xB (by omega)];rfl
   have hq:((m:Int)).tdiv 10=((m/10:Nat):Int):=by rw [xS (by omega)];rfl
   have hd:=W5 (r:=m%10) (by omega);have Jt:m<10000000000:=yN hm (by simpa using xA (show 0<10 by decide) (show k+1<=10 by omega));have fin:∃s',D P L mG ⟨[(0,aa m),(1,aa 9),(5,.str s)],[],0,0⟩=some (.normal,s')/\bf [0,1,5] s'=⟨[(0,aa (m/10:Nat)),(1,aa 9),(5,.str ([48+m%10]++s))],[],0,0⟩:=by
    by_cases hc:(0:Int)<m
    ·simp only [go_sem,ya,yb,mG,hc,fo _ _ _ (show (10:Int)≠0 by decide),eV _ _ _ (show (10:Int)≠0 by decide),hr,hq,wrapN (n:=m%10+1) (by omega),wrap64 (n:=((m/10:Nat):Int)) (by omega) (by omega),ew,du,show ((m%10:Nat):Int)+1=((m%10+1:Nat):Int) from rfl,hd,fS (a:=[48+m%10]) (b:=s) (by simp;omega)];exact ⟨_,rfl,by simp only [go_sem,ya,ao]⟩
    ·simp only [go_sem,ya,yb,mG,hc,show ((s.length:Nat):Int)<9 by omega,fo _ _ _ (show (10:Int)≠0 by decide),eV _ _ _ (show (10:Int)≠0 by decide),hr,hq,wrapN (n:=m%10+1) (by omega),wrap64 (n:=((m/10:Nat):Int)) (by omega) (by omega),ew,du,show ((m%10:Nat):Int)+1=((m%10+1:Nat):Int) from rfl,hd,fS (a:=[48+m%10]) (b:=s) (by simp;omega)];exact ⟨_,rfl,by simp only [go_sem,ya,ao]⟩
   obtain ⟨s',f1,f2⟩:=fin;exact ⟨s',k,f1,by omega,m/10,_,f2,by simp;omega,by rw [xg] at hm;omega,by rw [hs];simp [ie]⟩
end
end
section
open Go (IntKind)
def last_pos {l:List Int} (hd:dg l) (hn:nz l) (h:0<l.length):0<l.getD (l.length-1) 0:=by
 rcases snoc l with rfl | ⟨m,a,rfl⟩
 ·grind
 ·have e:(m++[a]).getD ((m++[a]).length-1) 0=a:=by simp_all
  have ha:=jc.1 (gB.1 hd).2;by_cases h0:a=0
  ·subst h0
   have:=KT m
   have e:=congrArg List.length hn;rw [GH] at e
   grind
  ·omega
section
variable {P:aI} {L:Lib}
def aqv (mP:Has P L 292 sB) {neg:Bool} {w:AV} {l:List Int} (hw:bk w l) (hd:dg l) (hn:nz l) (hl:l.length<=20000000000):
  ∀k s,(∃(j:Nat) (t:List Nat),bf [1,3,4] s=⟨[(1,.ptr 0 0),(3,.str t),(4,aa ((j:Int)-1))],[(0,.cells true true true 2 [.bool neg,w])],1,0⟩/\j=k/\j<l.length/\0<dv (l.drop j)/\t=ax (dv (l.drop j))/\t.length<=9*(l.length-j))->
   ∃ex s',D P L (.loop [1,3,4] Hz) s=some (ex,s')/\∃tm,s'=⟨tm,[(0,.cells true true true 2 [.bool neg,w])],1,0⟩/\ex= .exit 0/\aj tm 1= .ptr 0 0/\aj tm 3= .str (ax (dv l))/\(ax (dv l)).length<=180000000000:=by
 intro dq sq;generalize bQ:bf [1,3,4] sq=s0;revert bQ s0 sq dq;apply eO;rintro k s ⟨j,t,rfl,rfl,hj,AG,ht,Vp⟩
 cases j with
 | zero=>
  right
  rw [yi] at ht;simp only [go_sem,ya,Hz,show ¬(0:Int)<=((0:Nat):Int)-1 by omega];exact ⟨_,_,rfl,by simp,_,rfl,rfl,by simp only [go_sem,ya],by rw [<-ht];simp only [go_sem,ya],by rw [<-ht];omega⟩
 | succ i=>
  left
  have hi:i<l.length:=by omega
  obtain ⟨x,hx⟩:∃x,x=l.getD i 0:=⟨_,rfl⟩;have e1:=oW hw hi;have gx:=gS hd i;rw [<-hx] at e1 gx;obtain ⟨m,rfl⟩:∃m:Nat,x=m:=⟨x.toNat,by omega⟩;have e2:=aqu mP (n:=m) (by omega);unfold ae at e2;have hlp:=P4 9 m;have iI:dv (l.drop i)=dv (l.drop (i+1))*10^9+m:=by
   have:l.drop i=(m:Int)::l.drop (i+1):=by
    rw [yJ hi,hx];simp [xU,wH hi]
   rw [this];simp only [dv,xN];omega
  have at6:ax (dv (l.drop i))=t++ie 9 m:=by
   rw [iI,Lb 9 _ m AG (by omega),ht]
  simp only [go_sem,ya,Hz,show ((i+1:Nat):Int)-1=(i:Int) by omega,show (0:Int)<=(i:Int) by omega,aZ,yd,bX,e1,e2,fS (a:=t) (b:=ie 9 m) (by omega)];refine ⟨_,i,rfl,by omega,i,t++ie 9 m,?_,rfl,by omega,by omega,at6.symm,by simp;omega⟩;rw [wrap64 (by omega) (by omega)];simp only [go_sem,ya,yb,ao]<;>rfl
def Ny (h:Has P L 282 Iz) (mP:Has P L 292 sB) {v:AV} {n:Int} {K:Nat} (hK:K<=18000000000) (hv:iq v n) (hn:n.natAbs<1000000000^K):ae P L 282 [v] (.str (aW n))/\(aW n).length<=180000000001:=by
 obtain ⟨w,l,rfl,hw,hd,hz,oH⟩:=hv;have hl:=xj (gT hd hz (by rw [oH];exact hn)) hK
 by_cases h0:l=[]
 ·subst h0;have lS:n=0:=by simp [dv] at oH;omega
  subst lS;refine ⟨?_,by decide⟩;unfold ae;rw [au h];simp only [go_sem,ya,yb,Iz,aG,hw.len,hw.pu,hw.one,aZ,yd,bX,yA,show ((0:Nat):Int)=(0:Int) from rfl,yo];rfl
 ·have AG:0<l.length:=uI.2 h0;obtain ⟨x,hx⟩:∃x,x=l.getD (l.length-1) 0:=⟨_,rfl⟩;have e1:=oW hw (show l.length-1<l.length by omega);have gx:=gS hd (l.length-1);have gp:=last_pos hd hz AG;rw [<-hx] at e1 gx gp;obtain ⟨m,rfl⟩:∃m:Nat,x=m:=⟨x.toNat,by omega⟩;have e2:=SD mP (n:=m) (by omega);have iI:dv (l.drop (l.length-1))=m:=by
   rw [yJ (show l.length-1<l.length by omega),yP (by omega)]
   have:l[l.length-1]=(m:Int):=by rw [hx];simp [xU,wH (show l.length-1<l.length by omega)]
   simp [dv,this]
  have h9:(ax m).length<=9:=oP (k:=8) (by omega);have fin:∀neg:Bool,bN P L (D P L) 282 [.agg [.bool neg,w]]=some (.str ((if neg=true then [45] else [])++ax (dv l)))/\(ax (dv l)).length<=180000000000:=fun neg=>by
   rw [au h]
   simp only [go_sem,ya,yb,Iz,aG,hw.len,hw.pu,hw.one,aZ,yd,bX,show ¬(l.length:Int)=0 by omega,show (l.length:Int)-1=((l.length-1:Nat):Int) by omega,wrapN (n:=l.length-1) (by omega),e1,e2];generalize hq:D P L (.loop [1,3,4] Hz) _=q;obtain ⟨ex,s,rfl,tm,rfl,rfl,t1,t3,hlen⟩:=bI hq (aqv (P:=P) (L:=L) mP (neg:=neg) hw hd hz (by omega) (l.length-1)) ⟨l.length-1,ax m,by
    rw [show (l.length:Int)-2=((l.length-1:Nat):Int)-1 by omega,wrap64 (by omega) (by omega)]
    simp only [go_sem,ya,yb,ao]<;>rfl,rfl,by omega,by rw [iI];omega,by rw [iI],by omega⟩
   refine ⟨?_,hlen⟩
   cases neg with
   | true=>
    simp only [go_sem,ya,ao,t1,t3,aZ,yd,fS (a:=[45]) (b:=ax (dv l)) (by simp;omega),xh]
   | false=>
    simp only [go_sem,ya,ao,t1,t3,aZ,yd];rfl
  obtain ⟨f1,f2⟩:=fin (decide (n<0));rw [oH] at f1 f2;simp only [wW] at f1;rw [mC] at f1;refine ⟨f1,?_⟩;rw [<-mC]
  split<;>simp<;>omega
structure Rb (P:aI) (L:Lib):Prop where
 at7:Has P L 262 It
 sF:Has P L 272 Iy
 aec:Has P L 274 MW
 aed:Has P L 275 MX
 aua:Has P L 277 Cl
 aub:Has P L 280 mN
 aee:Has P L 281 MZ
 Nz:Has P L 282 Iz
 aef:Has P L 288 M2
 I9:Has P L 289 qj
 sG:Has P L 290 Ez
 SE:Has P L 291 IC
 mP:Has P L 292 sB
 jY:Has P L 293 Ao
 gK:Has P L 294 Ap
 Nw:Has P L 295 ID
 mV:Has P L 296 qt
 aeg:Has P L 298 M3
 n9:Has P L 299 Aq
 cJ:Has P L 300 kJ
 lP:Has P L 302 qu
structure Ras (P:aI) (L:Lib):Prop extends Rb P L where
 aeh:Has P L 264 Iu
 auc:Has P L 268 Iw
 aud:Has P L 271 Sf
 aue:Has P L 276 nZ
 Ja:Has P L 278 MY
 auf:Has P L 279 Ey
 Nx:Has P L 297 IE
structure Ra (P:aI) (L:Lib):Prop extends Ras P L where
 aei:Has P L 267 Iv
end
end
section
open Go (IntKind)
section
variable {P:aI} {L:Lib}
def anS {v w:AV} {a vs:List Int} {f:Int} (hv:bk v a) (hw:bk w vs) {n:Nat} (la:a.length<=9000000000) {A:Nat}:
  ∀k st,(∃us:List Int,bf [0,8,9,10,11] st=⟨[(0,v),(8,.aE 0 0 1),(9,w),(10,aa n),(11,.aE 1 0 us.length)],[(1,.cells true true false 1 (us.map aa)),(0,.cells false true true 1 [aa f])],2,0⟩/\us.length+k=a.length+1/\dg us/\dv us=A)->
   ∃ex st',D P L (.loop [0,8,9,10,11] HA) st=some (ex,st')/\∃tm us,st'=⟨tm,[(1,.cells true true false 1 (us.map aa)),(0,.cells false true true 1 [aa f])],2,0⟩/\ex= .exit 0/\aj tm 8= .aE 0 0 1/\aj tm 9=w/\aj tm 10=aa n/\aj tm 11= .aE 1 0 (a.length+1)/\us.length=a.length+1/\dg us/\dv us=A:=by
 intro dq sq;generalize bQ:bf [0,8,9,10,11] sq=s0;revert bQ s0 sq dq;apply eO;rintro k st ⟨us,rfl,hk,gu,aQ⟩;have ea:((a.length:Nat):Int)+1=((a.length+1:Nat):Int):=rfl;by_cases hi:us.length<a.length+1
 ·left
  simp only [go_sem,ya,yb,yh,yj,HA,hv.len,ea,wrapN (n:=a.length+1) (by omega),show ((us.length:Nat):Int)<((a.length+1:Nat):Int) by omega]
  rw [hZ (ex:=false) (pu:=true) (cs:=us.map aa) (by simp only [go_sem,ya]) (by simp) (by omega) (by omega) (by decide) (by simp only [go_sem])];refine ⟨_,k-1,rfl,by omega,us++[0],?_,by simp;omega,gB.2 ⟨gu,jc.2 (by decide)⟩,by rw [kZ];simp [dv,aQ]⟩;rw [xy,yW];simp only [go_sem,ya,yb,ao,aA hv.pu,aF _ hv.pu,aA hw.pu,aF _ hw.pu]<;>rfl
 ·right
  have hl:us.length=a.length+1:=by omega
  rw [hl]
  simp only [go_sem,ya,HA,hv.len,ea,wrapN (n:=a.length+1) (by omega),show ¬((a.length+1:Nat):Int)<((a.length+1:Nat):Int) by omega];exact ⟨_,_,rfl,by simp,_,us,rfl,rfl,by simp only [go_sem,ya],by simp only [go_sem,ya],by simp only [go_sem,ya],by simp only [go_sem,ya],hl,gu,aQ⟩
end
def abn:∀l:List Int,bL (l.map aa)=true
 | []=>rfl
 | a::r=>by rw [yS,XR,abn r];rfl
def abo:∀l:List Int,aK (l.map aa)=true
 | []=>rfl
 | a::r=>by rw [yS,aK,abo r];rfl
def anT {hp:Hp} {ct:Nat} {e:Bool} {us:List Int} {o:Obj} (h:us.length<=100000000000):
  Cr ((1,.cells true true true 1 [])::(0,o)::hp) ct 1 8 (.aE 1 0 0) (oR ((1,.cells true true true 1 [])::(0,o)::hp) 1 (.aH e us.length (us.map aa)))=some (.aE ct 0 us.length,(ct,.cells true true false 1 (us.map aa))::ep ((1,.cells true true true 1 [])::(0,o)::hp) 1,ct+1):=by
 have h1:oR ((1,.cells true true true 1 [])::(0,o)::hp) 1 (.aH e us.length (us.map aa))=some (us.length,us.map aa):=by
  simp [oR]
 rw [h1,hZ (cs:=[]) (pu:=true) (ex:=true) rfl (by simp) (by omega) (by omega) (by decide) (abn us),abo,yd];rfl
def aqw {l:List Int} (hd:dg l) (hn:nz l) (h:0<l.length):1000000000^(l.length-1)<=dv l:=Mg hn hd (fun e=>by subst e;simp at h)
def alC {n top f V:Nat} (hf:f=1000000000/(top+1)) (ht0:0<top) (ht:top<1000000000) (h1:V<1000000000^(n-1)*(top+1)) (hn:0<n):0<f/\f<1000000000/\V*f<1000000000^n:=by
 have h2:f*(top+1)<=1000000000:=by rw [hf];exact Nat.div_mul_le_self _ _
 have h3:0<f:=by rw [hf];exact Nat.div_pos (by omega) (by omega)
 refine ⟨h3,?_,?_⟩
 ·have:=yR f (show 2<=top+1 by omega)
  omega
 ·have e1:=wE h1 h3;have e2:=yR (1000000000^(n-1)) h2;rw [<-xg,show (n-1).succ=n by omega] at e2
  grind
section
variable {P:aI} {L:Lib}
def aqx (h:Has P L 289 qj) (jY:Has P L 293 Ao) (n9:Has P L 299 Aq) (cJ:Has P L 300 kJ) (pc:Has P L 301 sC) {v w:AV} {a b:List Int} (hv:bk v a) (hw:bk w b) (ha:dg a) (hb:dg b) (na:nz a) (nb:nz b) (la:a.length<=8000000000) (lb:2<=b.length) (ec:ae P L 296 [v,w] (aa (dF (dv a) (dv b)))) (hc:dv b<=dv a):
  ∃q r lq lr,ae P L 289 [v,w] (.aq [q,r])/\bk q lq/\bk r lr/\dg lq/\nz lq/\dg lr/\nz lr/\dv lq=dv a/dv b/\dv lr=dv a%dv b:=by
 have dU:¬dF (dv a) (dv b)<0:=by unfold dF;rw [yF (by omega)];split<;>decide
 have ar9:=aqw hb nb (by omega);have hba:b.length<=a.length:=by
  have:=jh ha
  have h1:1000000000^(b.length-1)<1000000000^a.length:=by omega
  have:=(tc (show 1<1000000000 by decide)).1 h1
  omega
 obtain ⟨n,hn⟩:∃n,n=b.length:=⟨_,rfl⟩;have aug:=gS hb (n-1);have Af:=last_pos hb nb (by omega);rw [<-hn] at Af;obtain ⟨top,mR⟩:∃v:Nat,b.getD (n-1) 0=v:=⟨(b.getD (n-1) 0).toNat,by omega⟩;have aej:=oW hw (i:=n-1) (by omega);rw [mR] at aug Af aej;have hbt:=nI (l:=b) (n-1);rw [show n-1+1=n by omega,yE (by omega),mR,xN] at hbt;have asa:=jh (By hb (n-1));rw [yQ,xQ (by omega)] at asa;obtain ⟨f,hf⟩:∃f,f=1000000000/(top+1):=⟨_,rfl⟩;obtain ⟨C5,hfB,hfV⟩:=alC (n:=n) (V:=dv b) hf (by omega) (by omega) (by rw [xx,yj];omega) (by omega);have hIf:bk (.aH true 1 [aa f]) [(f:Int)]:=fb true [(f:Int)];have gf:dg [(f:Int)]:=jc.2 (by omega);have vf:dv [(f:Int)]=f:=by simp [dv]
 obtain ⟨v',vs,e1,ef,hsv,CW,J7,rn⟩:=Ta jY cJ hw hIf hb gf (by omega) (by simp);obtain ⟨u',Bh,e2,iK,CS,Fm,nus,Kk⟩:=Ta jY cJ hv hIf ha gf (by omega) (by simp);rw [vf] at rn Kk;have pz:0<dv b:=by have:=Nat.pow_pos (n:=b.length-1) (show 0<1000000000 by decide);omega
 have zo:vs.length=n:=by
  have h1:vs.length<=n:=gT CW J7 (by rw [rn];exact hfV)
  have h2:dv b<=dv vs:=by rw [rn];exact Nat.le_mul_of_pos_right _ C5
  have h3:=jh CW;have h4:1000000000^(n-1)<1000000000^vs.length:=by rw [hn];omega
  have:=(tc (show 1<1000000000 by decide)).1 h4
  omega
 have OE:Bh.length<=a.length+1:=by
  refine gT Fm nus ?_;rw [Kk,xg];exact tj (jh ha) hfB
 have aek:0<Bh.length:=by
  rcases xm Bh.length with e | e
  ·have h1:0<dv a*f:=yaZ (by omega) C5;rw [yD e] at Kk;simp only [dv] at Kk;omega
  ·exact e
 have eI:0<vs.getD (n-1) 0:=by
  have:=last_pos CW J7 (by omega)
  rwa [zo] at this
 obtain ⟨m,hm⟩:∃m,m=a.length+1-n:=⟨_,rfl⟩;have cM:∀ct:Nat,sE ct 1 8 [.int .i64 0] (some m) (some m)=some (.aE ct 0 m,.cells true true true 1 ((yH m (0:Int)).map aa)):=fun ct=>by
  rw [HK (sz:=1) (by omega) (by omega) (by rfl) (by rfl),Po];rfl
 obtain ⟨e,rfl⟩:∃e,u'= .aH e Bh.length (Bh.map aa):=by
  rcases iK with ⟨rfl,h0⟩ | ⟨e,rfl⟩
  ·rw [List.map_eq_nil_iff] at h0;rw [h0] at aek;simp at aek
  ·exact ⟨e,by rw [yY]⟩
 have RG:∀us:List Int,us.length=a.length+1->dv us=dv a*f->dv (us.drop m)<dv vs:=fun us hl hd=>by
  have e1:=P8 us m (by omega);have e2:=jh ha;have e3:=wE e2 C5;have e4:1000000000^a.length=1000000000^m*1000000000^(n-1):=by rw [<-wj];congr 1;omega
  rw [<-hd,e4,xk] at e3;have e5:1000000000^m*dv (us.drop m)<1000000000^m*(1000000000^(n-1)*f):=by omega
  refine yN (Nat.lt_of_mul_lt_mul_left e5) ?_;rw [rn,hn];exact yU _ ar9
 have iD:∃us qs,(us.length=a.length+1/\qs.length=m/\dg us/\dg qs/\dv us+dv qs*dv vs=dv a*f/\dv us<dv vs)/\
   ∃q1 r1 lr,bk q1 (dL qs)/\bk r1 lr/\dg lr/\nz lr/\dv lr=dv (us.take n)/f/\ae P L 289 [v,w] (.aq [q1,r1]):=by
  unfold ae at ec e1 e2;unfold ae;rw [au h];have I0:IntKind.wrap .i64 ((1000000000:Int).tdiv ((top+1:Nat):Int))=(f:Int):=by
   rw [xS (by decide),show (1000000000:Int)/((top+1:Nat):Int)=((1000000000/(top+1):Nat):Int) from rfl,<-hf,wrap64 (by omega) (by omega)]
  simp only [go_sem,ya,yb,yq,yh,yj,qj,hv.af,hw.len,hw.af,ec,dU,show ¬(n:Int)=1 by omega,<-hn,show (n:Int)-1=((n-1:Nat):Int) by omega,wrapN (n:=n-1) (by omega),aej,show ((top:Nat):Int)+1=((top+1:Nat):Int) from rfl,wrapN (n:=top+1) (by omega),eV _ _ _ (show ((top+1:Nat):Int)≠0 by omega),I0,e1,hsv,ef.len,zo,e2,CS,anT (us:=Bh) (e:=e) (by omega)];generalize bQ:D P L (.loop [0,8,9,10,11] HA) _=q0;obtain ⟨ex,st,rfl,tm,us,rfl,rfl,t8,t9,t10,t11,lu,gu,vu⟩:=bI bQ (anS (P:=P) (L:=L) (f:=(f:Int)) (n:=n) (A:=dv a*f) hv ef (by omega) (a.length+1-Bh.length)) ⟨Bh,by
   simp only [go_sem,ya,yb,ao,aA hv.pu,aF _ hv.pu,aA ef.pu,aF _ ef.pu]<;>rfl,by omega,Fm,Kk⟩
  have em:((a.length+1:Nat):Int)-(n:Int)=(m:Int):=by omega
  have em1:(m:Int)-1=((m-1:Nat):Int):=by omega
  simp only [go_sem,ya,yb,ao,aA ef.pu,aF _ ef.pu,t8,t9,t10,t11,em,wrapN (n:=m) (by omega),cM,em1,wrapN (n:=m-1) (by omega)];generalize eT:D P L (.loop [8,9,10,11,12,13] HC) _=q1;obtain ⟨ex,st,rfl,qJ,Bi,qs,rfl,rfl,t8,t10,t11,t12,lu1,Kb,gu1,gq1,aQ,a6⟩:=bI eT (anR (P:=P) (L:=L) pc (f:=(f:Int)) ef CW zo (by omega) (show n<a.length+1 by omega) (by omega) (by omega) eI (U0:=dv a*f) m) ⟨m,us,yH m 0,by
   rw [show ((m-1:Nat):Int)=(m:Int)-1 by omega]
   simp only [go_sem,ya,yb,ao,aA ef.pu,aF _ ef.pu]<;>rfl,rfl,yv _,lu,by simp,gu,Yz m,fun i _=>Xf m i,by rw [Yy,Nat.zero_mul,yV,vu],RG us lu vu⟩
  have kM:∀(hp:Hp) tm (y:X),aw hp 1=some (.cells true true false 1 (Bi.map aa))->cI tm (a.length+1) (some y)=some n->fe hp (.sl 1) (.aE 1 0 (a.length+1)) tm none (some y)=some (.aE 1 0 n):=fun hp tm y h1 h2=>YI h1 h2 (by omega) (by omega)
  obtain ⟨e',J9⟩:∃e',∀hp:Hp,kL 0 n (some (false,1,Bi.map aa,hp))=some (.aH e' n ((Bi.take n).map aa),hp):=by
   refine ⟨false&&Nat.blt 0 1&&Nat.beq n (Bi.map aa).length,fun hp=>?_⟩;simp only [kL,yd,yj,slice,yi,<-List.map_take];rw [Nat.ble_eq_true_of_le (by simp;omega)];rfl
  have ltk:(Bi.take n).length=n:=by rw [yQ];omega
  have gA:=fb e' (Bi.take n);rw [ltk] at gA;obtain ⟨r0,f1,kR,auh⟩:=Ay cJ gA (by omega);obtain ⟨r1,lr,f2,cw,ayM,asb,dr,nr,vr⟩:=ad8 n9 cJ kR (zF (By gu1 n)) (by have:=KT (Bi.take n);omega) C5 hfB;have J8:=fb true qs;rw [Kb] at J8;obtain ⟨q1,f3,eT,aui⟩:=Ay cJ J8 (by omega);rw [rG] at vr;unfold ae at f1 f2 f3;refine ⟨Bi,qs,⟨lu1,Kb,gu1,gq1,aQ,a6⟩,q1,r1,lr,eT,cw,dr,nr,vr,?_⟩;have nj:gU 1 0 (AV.aE 0 0 1)=some (.ptr 0 0):=db 0 0 (show 0<1 by omega)
  simp only [go_sem,ya,yb,ao,t8,t10,t11,t12,kM,du,J9,f1,auh,kR.af,nj,f2,asb,fun hp=>pM (hp:=hp) (k:=m) (sz:=1) (cs:=qs.map aa) true (by simp [Kb]) (by decide),f3,aui];rcases eT with ⟨rfl,_⟩ | ⟨_,rfl⟩<;>rcases cw with ⟨rfl,_⟩ | ⟨_,rfl⟩<;>rfl
 obtain ⟨us,qs,⟨lu,lq,gu,gq,aQ,a6⟩,q1,r1,lr,eT,cw,dr,nr,vr,e⟩:=iD;rw [rn] at aQ a6;have I0:dv qs=dv a/dv b:=by
  rw [<-Nat.mul_div_mul_right _ _ C5,<-aQ,yal,xz,Nat.mul_add_div (yaZ pz C5),wk a6,yV]
 have OG:dv us=(dv a%dv b)*f:=by
  rw [<-Nat.mul_mod_mul_right,<-aQ,yal,xz (dv qs),Nat.mul_add_mod,yO a6]
 have jv:=P8 us n (by omega);have hX:dv (us.drop n)=0:=by
  rcases xm (dv (us.drop n)) with h0 | h0
  ·exact h0
  ·have:=yR (1000000000^n) h0
   omega
 rw [hX,xE,yV] at jv;rw [<-jv,OG,Nat.mul_div_cancel _ C5] at vr;exact ⟨q1,r1,_,lr,e,eT,cw,zF gq,DF _,dr,nr,by rw [rG,I0],vr⟩
def acX (h:Has P L 289 qj) (jY:Has P L 293 Ao) (mV:Has P L 296 qt) (n9:Has P L 299 Aq) (cJ:Has P L 300 kJ) (pc:Has P L 301 sC) {v w:AV} {a b:List Int} (hv:bk v a) (hw:bk w b) (ha:dg a) (hb:dg b) (na:nz a) (nb:nz b) (la:a.length<=8000000000) (lb:b.length<=8000000000) (h0:0<dv b):
  ∃q r lq lr,ae P L 289 [v,w] (.aq [q,r])/\bk q lq/\bk r lr/\dg lq/\nz lq/\dg lr/\nz lr/\dv lq=dv a/dv b/\dv lr=dv a%dv b:=by
 by_cases hl:b.length<=1
 ·exact at0 h mV n9 cJ hv hw ha hb na nb (by omega) hl h0
 have ec:=S9 mV hv hw ha hb na nb (by omega) (by omega);by_cases hc:dv a<dv b
 ·unfold ae at ec;have dU:dF (dv a) (dv b)= -1:=by unfold dF;rw [yL hc]
  rw [dU] at ec;refine ⟨.ab,v,[],a,?_,lh,hv,rfl,rfl,ha,na,?_,?_⟩
  ·unfold ae;rw [au h];simp only [go_sem,ya,qj,hv.af,hw.af,ec,show (-1:Int)<0 by decide];rcases hv with ⟨rfl,_⟩ | ⟨e,rfl⟩<;>rfl
  ·rw [wk hc];rfl
  ·rw [yO hc]
 ·exact aqx h jY n9 cJ pc hv hw ha hb na nb la (by omega) ec (by omega)
def acY (h:Has P L 275 MX) (I9:Has P L 289 qj) (jY:Has P L 293 Ao) (mV:Has P L 296 qt) (n9:Has P L 299 Aq) (cJ:Has P L 300 kJ) (pc:Has P L 301 sC) {v w:AV} {a b:List Int} (hv:bk v a) (hw:bk w b) (ha:dg a) (hb:dg b) (na:nz a) (nb:nz b) (la:a.length<=8000000000) (lb:b.length<=8000000000):
  ∃r l,ae P L 275 [v,w] r/\bk r l/\dg l/\nz l/\dv l=wo (dv a) (dv b):=by
 have key:=eh (P:=P) (L:=L) (live:=[0,1]) (a:=Hy)
  (I:=fun k st=>∃x y lx ly,st=⟨[(0,x),(1,y)],[],0,0⟩/\bk x lx/\bk y ly/\dg lx/\nz lx/\dg ly/\nz ly/\lx.length<=8000000000/\ly.length<=8000000000/\dv ly=k/\wo (dv lx) (dv ly)=wo (dv a) (dv b))
  (Q:=fun ex st=>∃tm ct,st=⟨tm,[],ct,0⟩/\ex= .exit 0/\∃x lx,aj tm 0=x/\bk x lx/\dg lx/\nz lx/\dv lx=wo (dv a) (dv b)) ?_
 ·unfold ae;rw [au h];simp only [go_sem,MX];generalize hq:D P L (.loop [0,1] Hy) _=q;obtain ⟨ex,st,rfl,tm,ct,rfl,rfl,x,lx,h2,hx,dx,nx,vx⟩:=bI hq (key (dv b)) ⟨v,w,a,b,by simp only [go_sem,ya,ao,aA hv.pu,aF _ hv.pu,aA hw.pu,aF _ hw.pu]<;>rfl,hv,hw,ha,na,hb,nb,la,lb,rfl,rfl⟩
  refine ⟨x,lx,?_,hx,dx,nx,vx⟩;simp only [go_sem,ao,h2,hx.dY,aA hx.pu,aF _ hx.pu]
 ·rintro k st ⟨x,y,lx,ly,rfl,hx,hy,dx,nx,dy,ny,llx,lly,rfl,hg⟩;by_cases h0:ly=[]
  ·right
   subst h0;simp only [go_sem,ya,Hy,hy.len,yA,show ¬(0:Int)<((0:Nat):Int) by omega];refine ⟨_,_,rfl,by simp,_,_,rfl,rfl,x,lx,by simp only [go_sem,ya],hx,dx,nx,?_⟩;rw [<-hg];simp [dv]
  ·left
   have hp:0<dv ly:=by
    rcases xm (dv ly) with e | e
    ·exact absurd (Ql ny dy e) h0
    ·exact e
   have hl:0<ly.length:=uI.2 h0;obtain ⟨q,r,lq,lr,e1,hq,hr,dq,nq,dr,nr,vq,vr⟩:=acX I9 jY mV n9 cJ pc hx hy dx dy nx ny llx lly hp;have a6:dv lr<dv ly:=by rw [vr];exact xv _ hp
   have hB:=jh dy;simp only [go_sem,ya,Hy,hx.af,hy.len,hy.af,show (0:Int)<ly.length by omega,e1,hq.bT,hr.bT];refine ⟨_,dv lr,rfl,a6,y,r,ly,lr,?_,hy,hr,dy,ny,dr,nr,by omega,xj (gT dr nr (Nat.lt_trans a6 hB)) lly,rfl,?_⟩
   ·simp only [go_sem,ya,ao,aA hy.pu,aF _ hy.pu,aA hr.pu,aF _ hr.pu]<;>rfl
   ·rw [<-hg,vr,ux (dv ly),<-Nat.gcd_rec,ux]
end
end
section
open Go (IntKind)
section
variable {P:aI} {L:Lib}
def aqy (sG:Has P L 290 Ez) {neg:Bool} {N:Nat} (hN:(ax N).length<=180000000000):
  ∀k s,(∃(i m:Nat) (out:List Int),m=k/\out.length=i/\dg out/\dv out+1000000000^i*m=N/\(ax m).length+9*i<=180000000000/\
    ((i=0/\bf [0,2,3,4] s=⟨[(0,.str (ax m)),(2,.ptr 0 0),(3,.bool neg),(4,.ab)],[(0,.cells true true true 2 [.bool false,.ab])],1,0⟩)\/
    (0<i/\bf [0,2,3,4] s=⟨[(0,.str (ax m)),(2,.ptr 0 0),(3,.bool neg),(4,.aE 1 0 i)],[(1,.cells true true false 1 (out.map aa)),(0,.cells true true true 2 [.bool false,.ab])],2,0⟩)))->
   ∃ex s',D P L (.loop [0,2,3,4] rV) s=some (ex,s')/\∃tm i m out,ex= .exit 0/\m<1000000000/\out.length=i/\dg out/\dv out+1000000000^i*m=N/\i<20000000000/\aj tm 0= .str (ax m)/\aj tm 2= .ptr 0 0/\aj tm 3= .bool neg/\
    ((i=0/\aj tm 4= .ab/\s'=⟨tm,[(0,.cells true true true 2 [.bool false,.ab])],1,0⟩)\/(0<i/\aj tm 4= .aE 1 0 i/\s'=⟨tm,[(1,.cells true true false 1 (out.map aa)),(0,.cells true true true 2 [.bool false,.ab])],2,0⟩)):=by
 intro dq sq;generalize bQ:bf [0,2,3,4] sq=s0;revert bQ s0 sq dq;apply eO;rintro k s ⟨i,m,out,rfl,hlen,hd,aQ,hl,hs⟩;by_cases hm:1000000000<=m
 ·left
  obtain ⟨q,hq⟩:∃q,q=m/1000000000:=⟨_,rfl⟩;obtain ⟨r,hr⟩:∃r,r=m%1000000000:=⟨_,rfl⟩;have kM:=ald hm;rw [<-hq,<-hr] at kM;have iX:=P4 9 r;have hqp:=rI q;have hlm:(ax m).length=(ax q).length+9:=by rw [kM,yW,iX]
  have c1:gX (ax m) (some (ax q).length) (some (ax m).length)=some (.str (ie 9 r)):=by
   rw [kB (by omega) (yv _),xM,kM,yaq]
  have c2:gX (ax m) (some 0) (some (ax q).length)=some (.str (ax q)):=by
   rw [kB (by omega) (by omega),yi,kM,yap]
  have e1:=IV sG (s:=ie 9 r) (v:=r) (by omega) (by rw [YG 9 r 0 (by omega)];simp)
  unfold ae at e1;have oZ:dg (out++[(r:Int)]):=gB.2 ⟨hd,jc.2 (by omega)⟩;have Mn:dv (out++[(r:Int)])+1000000000^(i+1)*q=N:=by
   rw [kZ,hlen,<-aQ,xg];have e:=Nat.mod_add_div m 1000000000;rw [<-hr,<-hq] at e;rw [<-e];simp only [dv,xN,xE,yV,xx,xk];omega
  have Mw:((ax m).length:Int)-9=((ax q).length:Int):=by omega
  rcases hs with ⟨h0,rfl⟩ | ⟨h0,rfl⟩
  ·subst h0;have iE:out=[]:=yD hlen;subst iE
   simp only [go_sem,ya,yb,xt,yq,yh,yj,rV,show (9:Int)<((ax m).length:Int) by omega,Mw,wrapN (n:=(ax q).length) (by omega),ew,eK,du,c1,c2,e1,ix];refine ⟨_,q,rfl,by omega,1,q,[]++[(r:Int)],rfl,rfl,oZ,Mn,by omega,.inr ⟨by omega,?_⟩⟩;rfl
  ·simp only [go_sem,ya,yb,yh,yj,rV,show (9:Int)<((ax m).length:Int) by omega,Mw,wrapN (n:=(ax q).length) (by omega),ew,eK,du,c1,e1]
   rw [hZ (ex:=false) (pu:=true) (cs:=out.map aa) (by simp only [go_sem,ya]) (by rw [yY,hlen,yj]) (by omega) (by omega) (by decide) (by simp only [go_sem])]
   simp only [go_sem,ya,yb,ew,eK,du,Mw,wrapN (n:=(ax q).length) (by omega),c2];refine ⟨_,q,rfl,by omega,i+1,q,out++[(r:Int)],rfl,by simp [hlen],oZ,Mn,by omega,.inr ⟨by omega,?_⟩⟩;rw [xy];simp only [go_sem,ya,yb,ao]<;>rfl
 ·right
  have h9:(ax m).length<=9:=oP (k:=8) (by omega);have hp0:=rI m;rcases hs with ⟨h0,rfl⟩ | ⟨h0,rfl⟩
  ·simp only [go_sem,rV,show ¬(9:Int)<((ax m).length:Int) by omega];exact ⟨_,_,rfl,by simp,_,i,m,out,rfl,by omega,hlen,hd,aQ,by omega,by simp only [go_sem,ya],by simp only [go_sem,ya],by simp only [go_sem,ya],.inl ⟨h0,by simp only [go_sem,ya],rfl⟩⟩
  ·simp only [go_sem,rV,show ¬(9:Int)<((ax m).length:Int) by omega];exact ⟨_,_,rfl,by simp,_,i,m,out,rfl,by omega,hlen,hd,aQ,by omega,by simp only [go_sem,ya],by simp only [go_sem,ya],by simp only [go_sem,ya],.inr ⟨h0,by simp only [go_sem,ya],rfl⟩⟩
end
end
section
open Go (IntKind)
section
variable {P:aI} {L:Lib}
def Td (h:Rb P L) {n:Int} (hn:(ax n.natAbs).length<=180000000000):∃r,ae P L 288 [.str (aW n)] r/\iq r n:=by
 obtain ⟨u,hu⟩:∃u,u=ax n.natAbs:=⟨_,rfl⟩;obtain ⟨b,t,hb,jo,Fg⟩:=Dx n.natAbs;have hs:aW n=(if n<0 then [45] else [])++u:=by rw [hu,mC]
 have A4:0<u.length:=by rw [hu];exact rI _
 have pv:u[0]=b:=by
  have:u=b::t:=by rw [hu,hb]
  simp [this]
 have key:∀(s:St),bf [0,2,3,4] s=⟨[(0,.str u),(2,.ptr 0 0),(3,.bool (decide (n<0))),(4,.ab)],[(0,.cells true true true 2 [.bool false,.ab])],1,0⟩->
   ∃ex s',D P L (.loop [0,2,3,4] rV) s=some (ex,s')/\∃tm i m out,ex= .exit 0/\m<1000000000/\out.length=i/\dg out/\dv out+1000000000^i*m=n.natAbs/\i<20000000000/\aj tm 0= .str (ax m)/\aj tm 2= .ptr 0 0/\aj tm 3= .bool (decide (n<0))/\
    ((i=0/\aj tm 4= .ab/\s'=⟨tm,[(0,.cells true true true 2 [.bool false,.ab])],1,0⟩)\/(0<i/\aj tm 4= .aE 1 0 i/\s'=⟨tm,[(1,.cells true true false 1 (out.map aa)),(0,.cells true true true 2 [.bool false,.ab])],2,0⟩)):=fun s hc=>
  aqy (P:=P) (L:=L) h.sG (neg:=decide (n<0)) hn n.natAbs s ⟨0,n.natAbs,[],rfl,rfl,rfl,by simp [dv],by omega,.inl ⟨rfl,by rw [hc,hu]⟩⟩
 have fin:∀(i m:Nat) (out:List Int),m<1000000000->out.length=i->dg out->dv out+1000000000^i*m=n.natAbs->i<20000000000->∃w l,bN P L (D P L) 294 [.bool (decide (n<0)),.aH false (i+1) ((out++[(m:Int)]).map aa)]=some (.agg [.bool (decide (n<0)),w])/\bk w l/\dg l/\nz l/\dv l=n.natAbs:=fun i m out h1 h2 h3 h4 h5=>by
  have hv:=fb false (out++[(m:Int)]);have hd:dg (out++[(m:Int)]):=gB.2 ⟨h3,jc.2 (by omega)⟩;have aQ:dv (out++[(m:Int)])=n.natAbs:=by rw [kZ,h2];simp [dv];exact h4
  obtain ⟨r,e,hr⟩:=mT h.gK h.cJ (decide (n<0)) hv hd (by simp;omega);have Fp:cg (decide (n<0)) (dv (out++[(m:Int)]))=n:=by
   rw [aQ];unfold cg;by_cases h0:n<0
   ·simp only [h0,yo,xh];omega
   ·simp only [h0,yp,yC,y8];omega
  rw [Fp] at hr;obtain ⟨w,l,rfl,hw,fB,ik,cT⟩:=hr;simp only [yW,List.length_singleton,h2] at e;exact ⟨w,l,e,hw,fB,ik,cT⟩
 unfold ae;rw [hs];by_cases h0:n<0
 ·rw [yL h0,au h.aef];have kj:gX (45::u) (some 1) (some (u.length+1))=some (.str u):=by rw [kB (s:=45::u) (l:=1) (h:=u.length+1) (by omega) (by simp)];simp
  simp only [h0,yo] at key fin ⊢;simp only [go_sem,ya,yb,M2,aG,show (0:Int)<((u.length+1:Nat):Int) by omega,xn,xW,Ct,yo,ew,eK,du,kj];generalize hq:D P L (.loop [0,2,3,4] rV) _=q;obtain ⟨ex,s,rfl,tm,i,m,out,rfl,hm,hlen,hd,aQ,hi,t0,t2,t3,B8⟩:=bI hq key (by simp only [go_sem,ya,yb,ao]<;>rfl)
  have e1:=IV h.sG (s:=ax m) (v:=m) (by have:=oP (k:=8) (n:=m) (by omega);omega) (Br m);have bU:i<20000000000:=hi;obtain ⟨w,l,e2,hw,fB,ik,cT⟩:=fin i m out hm hlen hd aQ bU;refine ⟨_,?_,w,l,rfl,hw,fB,ik,cT⟩;unfold ae at e1;rcases B8 with ⟨pD,t4,rfl⟩ | ⟨pD,t4,rfl⟩
  ·subst pD;have iE:out=[]:=yD hlen;subst iE;have gA:∀hp:Hp,kL 0 1 (some (false,1,[AV.int .i64 (m:Int)],hp))=some (.aH false 1 [AV.int .i64 (m:Int)],hp):=fun hp=>rfl
   simp only [xW,yS,xH,yd] at e2;simp only [go_sem,ya,yb,xt,yq,yh,yj,ao,t0,t2,t3,t4,e1,ix,gA,e2,bm,hw.pu,hw.one,dj];rcases hw with ⟨rfl,_⟩ | ⟨e,rfl⟩<;>simp only [h0,yo]<;>rfl
  ·simp only [go_sem,ya,yb,yh,yj,ao,t0,t2,t3,t4,e1]
   rw [hZ (ex:=false) (pu:=true) (cs:=out.map aa) (by simp only [go_sem,ya]) (by rw [yY,hlen,yj]) (by omega) (by omega) (by decide) (by simp only [go_sem])];have gA:∀hp:Hp,kL 0 (i+1) (some (false,1,out.map aa++[AV.int .i64 (m:Int)],hp))=some (.aH false (i+1) (out.map aa++[AV.int .i64 (m:Int)]),hp):=fun hp=>pM false (by simp [hlen]) (by decide)
   simp only [xy,yS,xH] at e2;simp only [go_sem,ya,yb,gA,e2,bm,hw.pu,hw.one,dj,uv];rcases hw with ⟨rfl,_⟩ | ⟨e,rfl⟩<;>simp only [h0,yo]<;>rfl
 ·rw [yF h0,au h.aef,xW];simp only [h0,yp] at key fin ⊢;simp only [go_sem,ya,yb,M2,aG,show (0:Int)<(u.length:Int) by omega,oS A4,pv,show ¬((b:Nat):Int)=45 by omega];generalize hq:D P L (.loop [0,2,3,4] rV) _=q;obtain ⟨ex,s,rfl,tm,i,m,out,rfl,hm,hlen,hd,aQ,hi,t0,t2,t3,B8⟩:=bI hq key (by simp only [go_sem,ya,yb,ao]<;>rfl)
  have e1:=IV h.sG (s:=ax m) (v:=m) (by have:=oP (k:=8) (n:=m) (by omega);omega) (Br m);have bU:i<20000000000:=hi;obtain ⟨w,l,e2,hw,fB,ik,cT⟩:=fin i m out hm hlen hd aQ bU;refine ⟨_,?_,w,l,rfl,hw,fB,ik,cT⟩;rcases B8 with ⟨pD,t4,rfl⟩ | ⟨pD,t4,rfl⟩
  ·subst pD;have iE:out=[]:=yD hlen;subst iE;have gA:∀hp:Hp,kL 0 1 (some (false,1,[AV.int .i64 (m:Int)],hp))=some (.aH false 1 [AV.int .i64 (m:Int)],hp):=fun hp=>rfl
   simp only [xW,yS,xH,yd] at e2;simp only [go_sem,ya,yb,xt,yq,yh,yj,ao,t0,t2,t3,t4,e1,ix,gA,e2,bm,hw.pu,hw.one,dj];rcases hw with ⟨rfl,_⟩ | ⟨e,rfl⟩<;>simp only [h0,yp]<;>rfl
  ·simp only [go_sem,ya,yb,yh,yj,ao,t0,t2,t3,t4,e1]
   rw [hZ (ex:=false) (pu:=true) (cs:=out.map aa) (by simp only [go_sem,ya]) (by rw [yY,hlen,yj]) (by omega) (by omega) (by decide) (by simp only [go_sem])];have gA:∀hp:Hp,kL 0 (i+1) (some (false,1,out.map aa++[AV.int .i64 (m:Int)],hp))=some (.aH false (i+1) (out.map aa++[AV.int .i64 (m:Int)]),hp):=fun hp=>pM false (by simp [hlen]) (by decide)
   simp only [xy,yS,xH] at e2;simp only [go_sem,ya,yb,gA,e2,bm,hw.pu,hw.one,dj,uv];rcases hw with ⟨rfl,_⟩ | ⟨e,rfl⟩<;>simp only [h0,yp]<;>rfl
end
end
section
open Go (IntKind)
def Dp (n:Int) (r:List Nat):bO (aW n++r)=(aW n).length+bO r:=by
 rw [<-mC]
 split
 ·simp only [xn,xW,bO,yu];rw [yF (by decide),Kz r (GS _)];omega
 ·rw [xW];exact Kz r (GS _)
def P9:∀{a b:List Nat},cE a b=true->a=b
 | [],[],_=>rfl
 | [],_::_,h=>by simp [cE] at h
 | _::_,[],h=>by simp [cE] at h
 | x::a,y::b,h=>by
  simp only [cE,Bool.and_eq_true] at h;rw [Nat.eq_of_beq_eq_true h.1,P9 h.2]
def acZ {n:Int} {d:Nat} (h:n≠0):cE (TT n d) [48]=false:=by
 cases hb:cE (TT n d) [48] with
 | false=>rfl
 | true=>
  have e:=P9 hb;unfold TT at e;by_cases h0:n<0
  ·rw [lZ h0] at e;simp at e
  ·obtain ⟨m,rfl⟩:∃m:Nat,n=m:=⟨n.toNat,by omega⟩;rw [jI] at e;obtain ⟨b,r,cO,_,_⟩:=Dx m;rw [cO] at e;simp only [xn,List.cons.injEq,List.append_eq_nil_iff] at e;have hv:=Br m;rw [cO,e.1,e.2.1] at hv
   have:(some 0:Option Nat)=some m:=hv
   grind
section
variable {P:aI} {L:Lib}
def aqz (h:Rb P L):∃r,ae P L 281 [aa 1] r/\iq r 1:=by
 obtain ⟨r,e,hr⟩:=mT h.gK h.cJ false (fb false [(1:Int)]) (by decide) (by decide);obtain ⟨w,l,rfl,hw,hd,hz,hv⟩:=hr;refine ⟨_,?_,w,l,rfl,hw,hd,hz,hv⟩;simp only [yS,xH,yu,yA,yd] at e;have gA:∀hp:Hp,kL 0 1 (some (false,1,[AV.int .i64 1],hp))=some (.aH false 1 [AV.int .i64 1],hp):=fun hp=>rfl
 unfold ae at e ⊢;rw [au h.aee];simp only [go_sem,ya,yb,xt,yq,yh,yj,MZ,aG,Int.reduceLT,yp,D4,ao,pT,Int.reduceEq,yG,yK,yo,fo _ _ _ (show (1000000000:Int)≠0 by decide),eV _ _ _ (show (1000000000:Int)≠0 by decide),show Int.tmod 1 1000000000=1 from rfl,show Int.tdiv 1 1000000000=0 from rfl,show IntKind.wrap .i64 0=0 from rfl,ix,gA,e,hw.pu,hw.one,bm,dj];rcases hw with ⟨rfl,_⟩ | ⟨e,rfl⟩<;>rfl
def ael (h:Rb P L) {n:Int} {d:Nat} (hn:(ax n.natAbs).length<=144000000000) (hd:(ax d).length<=144000000000):
  ∃x y,ae P L 274 [.str (TT n d)] (.aq [x,y])/\iq x n/\iq y d:=by
 obtain ⟨x,e1,hx⟩:=Td h (n:=n) (by omega);have hli:(aW n).length<=(ax n.natAbs).length+1:=by rw [<-mC];split<;>simp
 by_cases h1:d=1
 ·subst h1;obtain ⟨y,e2,hy⟩:=aqz h;have hT:TT n 1=aW n:=by unfold TT;simp
  have hs:=Dp n [];rw [wC] at hs;have e3:=Cs h.sF (s:=aW n) (by omega);rw [hs] at e3;refine ⟨x,y,?_,hx,hy⟩;obtain ⟨xw,xl,rfl,dB,_,_,_⟩:=hx;obtain ⟨yw,yl,rfl,dC,_,_,_⟩:=hy;rw [hT];unfold ae at e1 e2 e3 ⊢;rw [au h.aec];simp only [go_sem,ya,yb,MW,aG,e3,bO,yV,yo,e1,e2,bm,dB.pu,dB.one,dC.pu,dC.one,dj];rcases dB with ⟨rfl,_⟩ | ⟨e,rfl⟩<;>rcases dC with ⟨rfl,_⟩ | ⟨e',rfl⟩<;>rfl
 ·obtain ⟨y,e2,hy⟩:=Td h (n:=(d:Int)) (by simp;omega);rw [jI] at e2;obtain ⟨s,Ka⟩:∃s,s=TT n d:=⟨_,rfl⟩;have hT:s=aW n++47::ax d:=by rw [Ka];unfold TT;rw [yF h1]
  have hs:bO s=(aW n).length:=by rw [hT,Dp];rfl
  have hlen:s.length=(aW n).length+(ax d).length+1:=by rw [hT];simp;omega
  have e3:=Cs h.sF (s:=s) (by omega);rw [hs] at e3;have c1:gX s (some 0) (some (aW n).length)=some (.str (aW n)):=by
   rw [kB (by omega) (by omega),yi,hT,yap]
  have c2:gX s (some ((aW n).length+1)) (some s.length)=some (.str (ax d)):=by
   rw [kB (by omega) (yv _),xM,hT,show aW n++47::ax d=(aW n++[47])++ax d by simp,show (aW n).length+1=(aW n++[47]).length by simp,yaq]
  refine ⟨x,y,?_,hx,hy⟩;obtain ⟨xw,xl,rfl,dB,_,_,_⟩:=hx;obtain ⟨yw,yl,rfl,dC,_,_,_⟩:=hy;rw [<-Ka];unfold ae at e1 e2 e3 ⊢;rw [au h.aec]
  simp only [go_sem,ya,yb,MW,aG,e3,show ¬((aW n).length:Int)=(s.length:Int) by omega,ew,eK,du,c1,wrapN (n:=(aW n).length+1) (by omega),show ((aW n).length:Int)+1=(((aW n).length+1:Nat):Int) from rfl,c2,e1,e2,bm,dB.pu,dB.one,dC.pu,dC.one,dj];rcases dB with ⟨rfl,_⟩ | ⟨e,rfl⟩<;>rcases dC with ⟨rfl,_⟩ | ⟨e',rfl⟩<;>rfl
end
end
end VE
