import Derived.Test.YtjemkccfpkgopaaGreatDoorUav
import Derived.Test.YtjemkccfpkgopaaGreatDoorUar
import Derived.Test.YtjemkccfpkgopaaGreatDoorUas
set_option linter.all false
set_option maxRecDepth 100000
open Bool renaming and_true→ue,false_eq_true→yJ
open Int renaming gcd→wO,le_of_lt→uk,mul_add→ybQ,mul_le_mul_of_nonneg_left→vL,mul_nonneg→tu,natAbs_ediv_of_dvd→ua,natCast_add→yaM,natCast_mul→vv,natCast_nonneg→tn,ofNat_eq_natCast→yaa,ofNat_lt→ui,pow_pos→ybR,pow_succ→uR,tdiv_eq_ediv_of_nonneg→xV,tmod_eq_emod_of_nonneg→xX,toNat_natCast→xZ
open Int.ofNat renaming inj→tc
open List renaming append_assoc→xu,append_nil→wA,cons_append→xh,drop_drop→vH,drop_eq_getElem_cons→yX,drop_eq_nil_of_le→xj,drop_left→uN,drop_zero→yH,eq_nil_of_length_eq_zero→yC,getD_eq_getElem?_getD→yz,getElem?_eq_getElem→yK,getElem_cons_zero→vI,length_append→yL,length_cons→yG,length_drop→xT,length_map→yk,length_nil→yO,length_pos_iff→uV,length_take→yI,map_append→xy,map_cons→xe,map_nil→vE,nil_append→wh,replicate→yq,set_eq_of_length_le→tA,take_append_drop→xS,take_left→uM,take_length→xx,take_of_length_le→yN,take_set→tB
open Nat renaming add_comm→yaH,add_zero→yZ,div_add_mod→xR,div_eq_of_lt→wB,div_lt_iff_lt_mul→xQ,eq_zero_or_pos→xn,gcd→wz,gcd_comm→uI,le_of_lt_succ→tv,le_refl→yo,le_trans→xf,lt_of_lt_of_le→yV,min_eq_left→xE,mod_eq_of_lt→yU,mod_lt→xp,mul_add→xt,mul_assoc→xk,mul_comm→xB,mul_le_mul→xP,mul_le_mul_left→yW,mul_le_mul_right→yT,mul_lt_mul_of_pos_right→wK,mul_one→yi,mul_pos→ybt,mul_zero→xD,pow_le_pow_right→xb,pow_lt_pow_iff_right→tC,pow_succ→xc,reduceAdd→yb,reduceEqDiff→ya,reduceLT→yM,reduceLeDiff→yy,reduceMul→xM,zero_add→yg
open Rat renaming divInt→wu
namespace VE
section
open Go (IntKind)
def atp (i:Nat) (q:List Int) (x:Int):(yq (i+1) (0:Int)++q).set i x=yq i 0++x::q:=by
 rw [List.replicate_succ',xu,List.set_append_right _ _ (by simp)]
 simp
section
variable {P:aH} {L:Lib}
def axr {v:AV} {a:List Int} (hv:br v a) (ha:dg a) (la:a.length<=20000000000) {d:Nat} (h0:0<d) (h1:d<1000000000):
  ∀k s,(∃(j r:Nat) (q:List Int),aQ [0,1,6,7,8] s=⟨[(0,v),(1,ab d),(6,.aC 0 0 a.length),(7,ab r),(8,ab ((j:Int)-1))],[(0,.cells true true true 1 ((yq j (0:Int)++q).map ab))],1,0⟩/\j=k/\j+q.length=a.length/\r<d/\dg q/\dv (a.drop j)=d*dv q+r)->
   ∃ex s',D P L (.loop [0,1,6,7,8] H0) s=some (ex,s')/\∃tm r q,s'=⟨tm,[(0,.cells true true true 1 (q.map ab))],1,0⟩/\ex= .exit 0/\aj tm 6= .aC 0 0 a.length/\aj tm 7=ab (r:Nat)/\q.length=a.length/\r<d/\dg q/\dv a=d*dv q+r:=by
 intro dq sq;generalize bk:aQ [0,1,6,7,8] sq=s0;revert bk s0 sq dq;apply di;rintro k s ⟨j,r,q,rfl,rfl,hl,hr,hd,aO⟩
 cases j with
 | zero=>
  right
  simp only [go_sem,ya,H0,show ¬(0:Int)<=((0:Nat):Int)-1 by omega];exact ⟨_,_,rfl,by simp,_,r,q,rfl,rfl,by simp only [go_sem,ya],by simp only [go_sem,ya],by omega,hr,hd,aO⟩
 | succ i=>
  left
  have hi:i<a.length:=by omega
  obtain ⟨x,hx⟩:∃x,x=a.getD i 0:=⟨_,rfl⟩;have e1:=pO hv hi;have gx:=gN ha i;rw [<-hx] at e1 gx;obtain ⟨t,ht⟩:∃t:Nat,t=r*1000000000+x.toNat:=⟨_,rfl⟩;have jE:(r:Int)*1000000000+x=(t:Int):=by omega
  have jG:t<d*1000000000:=by
   omega
  have eZ:t/d<1000000000:=(xQ h0).2 (by rw [xB];exact jG)
  have cV:t%d<d:=xp _ h0;have e2:((t:Nat):Int).tdiv d=((t/d:Nat):Int):=by rw [xV (by omega)];rfl
  have e3:((t:Nat):Int).tmod d=((t%d:Nat):Int):=by rw [xX (by omega)];rfl
  have Kc:(yq (i+1) (0:Int)++q).length=a.length:=by simp;omega
  have aP:=fun (hp:Hp) (ct id:Nat) (ex:Bool)=>Bl (hp:=hp) (ct:=ct) (id:=id) (ex:=ex) (v:=((t/d:Nat):Int)) (l:=yq (i+1) (0:Int)++q) (o:=i) (by rw [Kc];exact hi)
  simp only [atp] at aP
  simp only [go_sem,ya,yi,H0,show ((i+1:Nat):Int)-1=(i:Int) by omega,show (0:Int)<=(i:Int) by omega,wrap64 (n:=(r:Int)*1000000000) (by omega) (by omega),e1,jE,wrapN (n:=t) (by omega),fO _ _ _ (show (d:Int)≠0 by omega),iq _ _ _ (show (d:Int)≠0 by omega),e2,e3,wrapN (n:=t/d) (by omega),cp 0 0 (show i<a.length from hi),yg,aP]
  refine ⟨_,i,rfl,by omega,i,t%d,((t/d:Nat):Int)::q,?_,rfl,by simp;omega,cV,(gM (a:=[((t/d:Nat):Int)]) (b:=q)).2 ⟨kK.2 ⟨tn _,ui.2 eZ⟩,hd⟩,?_⟩
  ·rw [wrap64 (by omega) (by omega)];simp only [go_sem,ya,yb,av,au hv.pu,ax _ hv.pu]<;>rfl
  ·have gV:a.drop i=x::a.drop (i+1):=by
    rw [yX hi,hx];simp [yz,yK hi]
   rw [gV];simp only [dv,aO,xZ];have e:=xR t d;rw [xt,xt d,Nat.mul_left_comm 1000000000 d];omega
def ajM (h:Has P L 299 Az) (cR:Has P L 300 kS) {v:AV} {a:List Int} (hv:br v a) (ha:dg a) (la:a.length<=20000000000) {d:Nat} (h0:0<d) (h1:d<1000000000):
  ∃r q,ak P L 299 [v,ab d] (.ae [r,ab (dv a%d:Nat)])/\br r q/\shut r=r/\bT r=r/\dg q/\nz q/\dv q=dv a/d:=by
 obtain ⟨n,hn⟩:∃n,n=a.length:=⟨_,rfl⟩;have cL:∀ct:Nat,oI ct 1 8 [.int .i64 0] (some n) (some n)=some (.aC ct 0 n,.cells true true true 1 ((yq n (0:Int)).map ab)):=fun ct=>by
  rw [Ag (sz:=1) (by omega) (by omega) (by rfl) (by rfl),PU];rfl
 unfold ak;rw [aI h];simp only [go_sem,ya,yb,Az,hv.len,<-hn,cL];generalize hq:D P L (.loop [0,1,6,7,8] H0) _=q;obtain ⟨ex,s,rfl,tm,r,qs,rfl,rfl,t6,t7,hlen,hr,hd,aO⟩:=bI hq (axr (P:=P) (L:=L) hv ha la h0 h1 a.length) ⟨a.length,0,[],by
  rw [wrap64 (by omega) (by omega),wA,<-hn]
  simp only [go_sem,ya,yb,av,au hv.pu,ax _ hv.pu]<;>rfl,rfl,by simp,h0,rfl,by rw [xj (yo _)];simp [dv]⟩
 have gS:=mv true qs;rw [hlen] at gS;obtain ⟨w,e1,hw,jq⟩:=AG cR gS (by omega);have fy:dv a/d=dv qs/\dv a%d=r:=(Nat.div_mod_unique h0).2 ⟨by omega,hr⟩;refine ⟨w,dK qs,?_,hw,jq,hw.bT,zT hd,DG qs,by rw [r7,fy.1]⟩;have iI:∀hp:Hp,jY 0 a.length (some (true,1,qs.map ab,hp))=some (.ai true a.length (qs.map ab),hp):=fun hp=>nW true (by simp [hlen]) (by decide)
 rw [fy.2];simp only [go_sem,ya,yb,av,t6,t7,iI,e1,jq];rcases hw with ⟨rfl,_⟩ | ⟨e,rfl⟩<;>rfl
def aAY (h:Has P L 279 Et) (XI:Has P L 295 IX) (nD:Has P L 296 qY) (Og:Has P L 297 IY) (mN:Has P L 302 qZ) (iW:Has P L 294 Ay) (cR:Has P L 300 kS) {v w:AV} {n m:Int} {K:Nat} (hK:K<=8000000000) (hv:jJ v n) (hw:jJ w m) (hn:n.natAbs<1000000000^K) (hm:m.natAbs<1000000000^K):
  ∃r,ak P L 279 [v,w] r/\jJ r (n+m):=by
 obtain ⟨x,a,rfl,hx,ha,na,va⟩:=hv;obtain ⟨y,b,rfl,hy,hb,nb,vb⟩:=hw;have la:=xf (iP ha na (by rw [va];exact hn)) hK
 have lb:=xf (iP hb nb (by rw [vb];exact hm)) hK
 by_cases hs:(decide (n<0)==decide (m<0))=true
 ·obtain ⟨z,out,e1,hz,hd,aO,hl⟩:=aAX XI mN hx hy ha hb (by omega) (by omega);have lo:out.length<=20000000000:=by omega
  obtain ⟨r,e2,hr⟩:=za iW cR (decide (n<0)) hz hd lo;have e:cA (decide (n<0)) (dv out)=n+m:=by
   have Da:(n<0)=(m<0):=by simpa using eq_of_beq hs
   rw [aO,va,vb];unfold cA;by_cases h0:n<0
   ·have h1:m<0:=Da▸h0;simp only [h0,yu,xA];omega
   ·have h1:¬m<0:=Da▸h0;simp only [h0,yv,yJ,xd];omega
  rw [e] at hr;obtain ⟨w2,l2,rfl,gJ,gH,jm,zb⟩:=hr;refine ⟨_,?_,w2,l2,rfl,gJ,gH,jm,zb⟩;unfold ak at e1 e2 ⊢;rw [aI h];simp only [go_sem,ya,yb,Et,bg,hx.pu,hx.ao,hx.one,hy.pu,hy.ao,hy.one,hz.ao,gJ.pu,gJ.one,bY,yg,cX,e1,oA,ed,hs,e2,gj,bW];rcases gJ with ⟨rfl,_⟩ | ⟨e,rfl⟩<;>rfl
 ·have hs:(decide (n<0)==decide (m<0))=false:=by simpa using hs
  have Da:¬((n<0)=(m<0)):=fun e=>by simp [e] at hs
  have ec:=XG nD hx hy ha hb na nb (by omega) (by omega);by_cases hc:dv a<dv b
  ·have dW:dF (dv a) (dv b)= -1:=by unfold dF;rw [yE hc]
   rw [dW] at ec;obtain ⟨z,out,e1,hz,jq,hd,Bf,aO⟩:=ajL Og mN cR hy hx hb ha nb na (by omega) (by omega);have lo:out.length<=20000000000:=by
    refine iP hd Bf ?_
    have:=jh hb
    have hk:∀K,b.length<=K->dv out<1000000000^K:=fun K h=>yV (show dv out<1000000000^b.length by omega) (xb (by decide) h)
    exact hk 20000000000 (by omega)
   obtain ⟨r,e2,hr⟩:=za iW cR (decide (m<0)) hz hd lo;have e:cA (decide (m<0)) (dv out)=n+m:=by
    rw [va,vb] at aO;unfold cA;by_cases h0:m<0
    ·have h1:¬n<0:=fun h1=>Da (by simp [h0,h1])
     simp only [h0,yu,xA];omega
    ·have h1:n<0:=by
      by_cases h1:n<0
      ·exact h1
      ·exact absurd (by simp [h0,h1]) Da
     simp only [h0,yv,yJ,xd];omega
   rw [e] at hr;obtain ⟨w2,l2,rfl,gJ,gH,jm,zb⟩:=hr;refine ⟨_,?_,w2,l2,rfl,gJ,gH,jm,zb⟩;unfold ak at e1 e2 ec ⊢;rw [aI h];simp only [go_sem,ya,yb,Et,bg,hx.pu,hx.ao,hx.one,hy.pu,hy.ao,hy.one,hz.ao,hz.shut,gJ.pu,gJ.one,bY,yg,cX,e1,oA,ed,hs,ec,show ¬(0:Int)<=-1 by decide,e2,gj,bW];rcases gJ with ⟨rfl,_⟩ | ⟨e,rfl⟩<;>rfl
  ·have dW:(0:Int)<=dF (dv a) (dv b):=by unfold dF;rw [yr hc];split<;>decide
   obtain ⟨z,out,e1,hz,jq,hd,Bf,aO⟩:=ajL Og mN cR hx hy ha hb na nb (by omega) (by omega);have lo:out.length<=20000000000:=by
    refine iP hd Bf ?_
    have:=jh ha
    have hk:∀K,a.length<=K->dv out<1000000000^K:=fun K h=>yV (show dv out<1000000000^a.length by omega) (xb (by decide) h)
    exact hk 20000000000 (by omega)
   obtain ⟨r,e2,hr⟩:=za iW cR (decide (n<0)) hz hd lo;have e:cA (decide (n<0)) (dv out)=n+m:=by
    rw [va,vb] at aO;unfold cA;by_cases h0:n<0
    ·have h1:¬m<0:=fun h1=>Da (by simp [h0,h1])
     simp only [h0,yu,xA];omega
    ·have h1:m<0:=by
      by_cases h1:m<0
      ·exact h1
      ·exact absurd (by simp [h0,h1]) Da
     simp only [h0,yv,yJ,xd];omega
   rw [e] at hr;obtain ⟨w2,l2,rfl,gJ,gH,jm,zb⟩:=hr;refine ⟨_,?_,w2,l2,rfl,gJ,gH,jm,zb⟩;unfold ak at e1 e2 ec ⊢;rw [aI h];simp only [go_sem,ya,yb,Et,bg,hx.pu,hx.ao,hx.one,hy.pu,hy.ao,hy.one,hz.ao,hz.shut,gJ.pu,gJ.one,bY,yg,cX,e1,oA,ed,hs,ec,dW,e2,gj,bW];rcases gJ with ⟨rfl,_⟩ | ⟨e,rfl⟩<;>rfl
end
end
section
open Go (IntKind)
section
variable {P:aH} {L:Lib}
def afI {l:List Int} (hd:dg l) (hn:nz l) (h:dv l<1000000000):l.length<=1:=iP hd hn (by simpa using h)
def aAZ (h:Has P L 289 qX) (nD:Has P L 296 qY) (oM:Has P L 299 Az) (cR:Has P L 300 kS) {v w:AV} {a b:List Int} (hv:br v a) (hw:br w b) (ha:dg a) (hb:dg b) (na:nz a) (nb:nz b) (la:a.length<=20000000000) (lb:b.length<=1) (h0:0<dv b):
  ∃q r lq lr,ak P L 289 [v,w] (.ae [q,r])/\br q lq/\br r lr/\dg lq/\nz lq/\dg lr/\nz lr/\dv lq=dv a/dv b/\dv lr=dv a%dv b:=by
 have ec:=XG nD hv hw ha hb na nb la (by omega);by_cases hc:dv a<dv b
 ·have dW:dF (dv a) (dv b)= -1:=by unfold dF;rw [yE hc]
  rw [dW] at ec;refine ⟨.aa,v,[],a,?_,qu,hv,rfl,rfl,ha,na,?_,?_⟩
  ·unfold ak;rw [aI h];simp only [go_sem,ya,qX,hv.ao,hw.ao,ec,show (-1:Int)<0 by decide];rcases hv with ⟨rfl,_⟩ | ⟨e,rfl⟩<;>rfl
  ·rw [wB hc];rfl
  ·rw [yU hc]
 ·have dW:¬dF (dv a) (dv b)<0:=by unfold dF;rw [yr hc];split<;>decide
  have mO:b.length=1:=by
   rcases xn b.length with e | e
   ·rw [yC e] at h0;simp [dv] at h0
   ·omega
  obtain ⟨x,rfl⟩:∃x,b=[x]:=by
   cases b with
   | nil=>simp at mO
   | cons x r=>cases r with
    | nil=>exact ⟨x,rfl⟩
    | cons y r=>simp at mO
  have gx:=kK.1 hb;obtain ⟨d,hd⟩:∃d:Nat,x=d:=⟨x.toNat,by omega⟩;subst hd;have hdd:dv [((d:Nat):Int)]=d:=by simp [dv]
  rw [hdd] at h0 hc dW ec ⊢;obtain ⟨q,lq,e1,hq,kH,aA0,dq,nq,vq⟩:=ajM oM cR hv ha la h0 (by omega);have ahz:dv a%d<d:=xp _ h0;generalize dv a%d=m at*
  obtain ⟨r,e2,hr,hrs⟩:=AG cR (mv true [(m:Int)]) (by simp);refine ⟨q,r,lq,dK [(m:Int)],?_,hq,hr,dq,nq,zT (kK.2 (by omega)),DG _,vq,by rw [r7];simp [dv]⟩;have e3:=hw.aM (i:=0) (by simp);simp only [yG,yO,yg,xe,vE,vI] at e2 e3;unfold ak;rw [aI h];simp only [go_sem,ya,yb,yM,yy,yi,qX,hv.ao,hw.len,hw.ao,ec,dW,yG,yO,show ((1:Nat):Int)=(1:Int) from rfl,yu,e3,e1,aA0,e2,hrs];rcases hq with ⟨rfl,_⟩ | ⟨e,rfl⟩<;>rcases hr with ⟨rfl,_⟩ | ⟨e',rfl⟩<;>rfl
end
end
section
open Go (IntKind)
def sv:List Int->Int
 | []=>0
 | a::r=>a+1000000000*sv r
def abA:∀(a b:List Int),sv (a++b)=sv a+1000000000^a.length*sv b
 | [],b=>by simp [sv]
 | x::a,b=>by
  simp only [xh,sv,abA a b,yG,uR,ybQ]
  grind
def axs (x:Int):sv [x]=x:=by simp [sv]
def D9:∀{l:List Int} {i:Nat} {x:Int},i<l.length->sv (l.set i x)=sv l+1000000000^i*(x-l.getD i 0)
 | [],i,x,h=>by simp at h
 | a::l,0,x,_=>by simp [sv];omega
 | a::l,i+1,x,h=>by
  have ih:=D9 (l:=l) (i:=i) (x:=x) (by simpa using h);simp only [List.set_cons_succ,sv,List.getD_cons_succ,ih,uR,ybQ]
  grind
def LU {l:List Int} (i:Nat):sv (l.take (i+1))=sv (l.take i)+1000000000^i*l.getD i 0:=by
 by_cases h:i<l.length
 ·rw [List.take_succ_eq_append_getElem h,abA,yI,xE (by omega),axs]
  grind
 ·rw [yN (by omega),yN (by omega),Hj (by omega),Int.mul_zero,Int.add_zero]
def sM:∀{l:List Int},dg l->sv l=dv l
 | [],_=>rfl
 | a::l,h=>by
  obtain ⟨h1,h2⟩:=gM.1 (show dg ([a]++l) from h);have h1:=kK.1 h1;simp only [sv,dv,sM h2,yaM,vv];omega
section
variable {pre x post:List Int} {i:Nat}
def nk:(pre++x++post).length=pre.length+x.length+post.length:=by grind
def Ai (h:i<x.length):(pre++x++post).getD (pre.length+i) 0=x.getD i 0:=by grind
def Me (a:Int) (h:i<x.length):(pre++x++post).set (pre.length+i) a=pre++x.set i a++post:=by simp_all
end
def agW {l:List Int} {i m:Nat} {x:Int} (h:i≠m):(l.set i x).getD m 0=l.getD m 0:=by simp_all
def apg {l:List Int} {i:Nat} {x:Int} (h:i<l.length):(l.set i x).getD i 0=x:=by simp_all
abbrev H3 (q u:List Int) (f:Int):Hp:=[(2,.cells true true true 1 (q.map ab)),(1,.cells true true false 1 (u.map ab)),(0,.cells false true true 1 [ab f])]
def Lt {live:List Nat} {tm:Env} {ct:Nat} {a b c:List AV} (ht:pK 3 (dN tm live)) (hl:(iR (dN tm live)).length<100000):
  aQ live ⟨tm,[(2,.cells true true true 1 a),(1,.cells true true false 1 b),(0,.cells false true true 1 c)],ct,3⟩=⟨dN tm live,[(2,.cells true true true 1 a),(1,.cells true true false 1 b),(0,.cells false true true 1 c)],3,3⟩:=
 aac ht ⟨by omega,.inl rfl,by omega,.inl rfl,by omega,.inl rfl,trivial⟩ (by
  have:iM 3 [(2,Obj.cells true true true 1 a),(1,Obj.cells true true false 1 b),(0,Obj.cells false true true 1 c)]=[]:=rfl
  rw [this,yO,yZ];exact hl)
structure fC (x vs:List Int) (n v1 v2 u0 u1 u2:Nat):Prop where
 n2:2<=n
 nb:n<=20000000000
 lx:x.length=n+1
 lv:vs.length=n
 gx:dg x
 gv:dg vs
 eJ:vs.getD (n-1) 0=(v1:Int)
 dt:vs.getD (n-2) 0=(v2:Int)
 h0:x.getD n 0=(u0:Int)
 h1:x.getD (n-1) 0=(u1:Int)
 h2:x.getD (n-2) 0=(u2:Int)
 pos:0<v1
 lt:dv x<1000000000*dv vs
section
variable {x vs:List Int} {n v1 v2 u0 u1 u2:Nat}
def fC.Ke (h:fC x vs n v1 v2 u0 u1 u2):v1<1000000000:=by have:=gN h.gv (n-1);rw [h.eJ] at this;omega
def fC.CW (h:fC x vs n v1 v2 u0 u1 u2):v2<1000000000:=by have:=gN h.gv (n-2);rw [h.dt] at this;omega
def fC.u0W (h:fC x vs n v1 v2 u0 u1 u2):u0<1000000000:=by have:=gN h.gx n;rw [h.h0] at this;omega
def fC.Kf (h:fC x vs n v1 v2 u0 u1 u2):u1<1000000000:=by have:=gN h.gx (n-1);rw [h.h1] at this;omega
def fC.Kg (h:fC x vs n v1 v2 u0 u1 u2):u2<1000000000:=by have:=gN h.gx (n-2);rw [h.h2] at this;omega
def fC.parts (h:fC x vs n v1 v2 u0 u1 u2):∃p vr ur,dv vs=(v1*1000000000+v2)*p+vr/\vr<p/\dv x=((u0*1000000000+u1)*1000000000+u2)*p+ur/\ur<p:=by
 obtain ⟨m,hm⟩:∃m,n=m+2:=⟨n-2,by have:=h.n2;omega⟩;subst hm;have e1:=n7 (l:=vs) (m+1);have e2:=n7 (l:=vs) m;have f0:=n7 (l:=x) (m+2);have f1:=n7 (l:=x) (m+1);have f2:=n7 (l:=x) m;have eJ:vs.getD (m+1) 0=(v1:Int):=h.eJ;have dt:vs.getD m 0=(v2:Int):=h.dt;have h0:x.getD (m+2) 0=(u0:Int):=h.h0;have h1:x.getD (m+1) 0=(u1:Int):=h.h1;have h2:x.getD m 0=(u2:Int):=h.h2
 rw [yN (by have:=h.lv;omega),eJ,e2,dt] at e1
 rw [yN (by have:=h.lx;omega),h0,f1,h1,f2,h2] at f0;simp only [xZ] at e1 f0;have g1:=jh (BG h.gv m)
 rw [yI,xE (by have:=h.lv;omega)] at g1;have g2:=jh (BG h.gx m)
 rw [yI,xE (by have:=h.lx;omega)] at g2;refine ⟨1000000000^m,_,_,?_,g1,?_,g2⟩
 ·rw [e1,xc,ay2]
 ·rw [f0,show 1000000000^(m+2)=1000000000^m*1000000000*1000000000 by rw [xc,xc],xc,ay3]
def fC.down (h:fC x vs n v1 v2 u0 u1 u2) {t r:Nat} (ht:t*v1+r=u0*1000000000+u1) (hr:r*1000000000+u2<t*v2):dv x/dv vs<=t-1:=by
 obtain ⟨p,vr,ur,h1,h2,h3,h4⟩:=h.parts;exact aaC h1 h3 h4 ht hr
def fC.stop (h:fC x vs n v1 v2 u0 u1 u2) {t r:Nat} (jG:t<1000000000) (ht:t*v1+r=u0*1000000000+u1) (hr:1000000000<=r\/t*v2<=r*1000000000+u2):t<=dv x/dv vs+1:=by
 obtain ⟨p,vr,ur,h1,h2,h3,h4⟩:=h.parts;exact abl (by decide) h1 h2 h3 h.pos h.CW jG ht hr
def fC.first (h:fC x vs n v1 v2 u0 u1 u2):dv x/dv vs<=(u0*1000000000+u1)/v1:=by
 obtain ⟨p,vr,ur,h1,h2,h3,h4⟩:=h.parts;exact PF h1 h3 h4 h.Kg h.pos
def fC.top (h:fC x vs n v1 v2 u0 u1 u2):u0<=v1:=by
 obtain ⟨p,vr,ur,h1,h2,h3,h4⟩:=h.parts;exact abm h1 h3 h2 h.CW h.lt
def fC.digit (h:fC x vs n v1 v2 u0 u1 u2):dv x/dv vs<1000000000:=by
 refine (xQ ?_).2 h.lt;rcases xn (dv vs) with h0 | h0
 ·have:=h.lt;rw [h0] at this;simp at this
 ·exact h0
def fC.small (h:fC x vs n v1 v2 u0 u1 u2) {t r:Nat} (ht:t*v1+r=u0*1000000000+u1) (hb:1000000000<=t):r<1000000000:=by
 have h1:=h.top;have h2:=h.Kf;have h3:=yT v1 hb
 grind
end
def aA1 {r u:Nat} (hr:r<1000000000) (hu:u<1000000000):r*1000000000<9223372036854775808/\r*1000000000+u<9223372036854775808:=by omega
section
variable {P:aH} {L:Lib}
def atq {w:AV} {x vs pre post qs:List Int} {f:Int} (hw:br w vs) {n v1 v2 u0 u1 u2 M:Nat} (hl:fC x vs n v1 v2 u0 u1 u2) (hM:M=pre.length+x.length+post.length) (Ks:M<=50000000000):
  ∀k s,(∃t r:Nat,aQ [0,1,2,7,9,10] s=⟨[(0,.aC 1 0 M),(1,w),(2,ab pre.length),(7,ab n),(9,ab t),(10,ab r)],H3 qs (pre++x++post) f,3,3⟩/\t*v1+r=u0*1000000000+u1/\r<1000000000/\dv x/dv vs<=t/\t=k)->
   ∃ex s',D P L (.loop [0,1,2,7,9,10] Ae) s=some (ex,s')/\∃tm ct t,s'=⟨tm,H3 qs (pre++x++post) f,ct,3⟩/\((ex= .exit 0/\aj tm 9=ab (t:Nat))\/(ex= .ret/\aj tm 6=ab (t:Nat)))/\ct=3/\t<1000000000/\dv x/dv vs<=t/\t<=dv x/dv vs+1:=by
 intro dq sq;generalize bk:aQ [0,1,2,7,9,10] sq=s0;revert bk s0 sq dq;apply di;rintro k s ⟨t,r,rfl,ht,hr,hQ,rfl⟩;have dV:=hl.n2;have oY:=hl.nb;have hlx:=hl.lx;have EX:=hl.Ke;have Xf:=hl.CW;have aji:=hl.Kg;have aA2:=hl.u0W;have N7:=hl.Kf;have rn:=hl.pos;have po:=pO hw (i:=n-2) (by have:=hl.lv;omega);have eK:=pO hw (i:=n-1) (by have:=hl.lv;omega);rw [hl.dt] at po;rw [hl.eJ] at eK;have rO:=qS (l:=pre++x++post) (o:=pre.length+(n-2)) (by rw [nk];omega);rw [Ai (by omega),hl.h2] at rO;have zE:(n:Int)-2=((n-2:Nat):Int):=by omega
 have pq:(n:Int)-1=((n-1:Nat):Int):=by omega
 have Kt:(pre.length:Int)+(n:Int)=((pre.length+n:Nat):Int):=rfl;have Zh:((pre.length+n:Nat):Int)-2=((pre.length+(n-2):Nat):Int):=by omega
 have aG3:t<=1000000000000000000:=by
  have:=yW t rn
  omega
 have aG4:t*1<=t*v1:=yW t rn;obtain ⟨Zi,Zj⟩:=aA1 hr aji;by_cases rN:1000000000<=t\/r*1000000000+u2<t*v2
 ·have GI:0<t:=by
   rcases xn t with h0 | h0
   ·subst h0;omega
   ·exact h0
  have h1:(t-1)*v1+(r+v1)=u0*1000000000+u1:=by
   obtain ⟨p,rfl⟩:∃p,t=p+1:=⟨t-1,by omega⟩;rw [Nat.add_mul,Nat.one_mul] at ht;rw [Nat.add_sub_cancel];omega
  have CX:dv x/dv vs<=t-1:=by
   rcases rN with h | h
   ·have:=hl.digit;generalize dv x/dv vs=q at*;omega
   ·exact hl.down ht h
  have Pd:((t:Nat):Int)-1=((t-1:Nat):Int):=by omega
  have stop:1000000000<=r+v1->t-1<1000000000/\t-1<=dv x/dv vs+1:=fun hb=>by
   have aW:t-1<1000000000:=by
    by_cases rF:1000000000<=t-1
    ·have:=hl.small h1 rF;omega
    ·omega
   exact ⟨aW,hl.stop aW h1 (.inl hb)⟩
  by_cases hb:1000000000<=t
  ·by_cases mh:1000000000<=r+v1
   ·right
    obtain ⟨s1,s2⟩:=stop mh
    simp only [go_sem,ya,Ae,H3,show (1000000000:Int)<=(t:Int) by omega,Pd,wrapN (n:=t-1) (by omega),pq,wrapN (n:=n-1) (by omega),eK,show (r:Int)+(v1:Int)=((r+v1:Nat):Int) from rfl,wrapN (n:=r+v1) (by omega),show (1000000000:Int)<=((r+v1:Nat):Int) by omega];exact ⟨_,_,rfl,by simp,_,_,t-1,rfl,.inr ⟨rfl,by simp only [go_sem]⟩,rfl,s1,CX,s2⟩
   ·left
    simp only [go_sem,ya,Ae,H3,show (1000000000:Int)<=(t:Int) by omega,Pd,wrapN (n:=t-1) (by omega),pq,wrapN (n:=n-1) (by omega),eK,show (r:Int)+(v1:Int)=((r+v1:Nat):Int) from rfl,wrapN (n:=r+v1) (by omega),show ¬(1000000000:Int)<=((r+v1:Nat):Int) by omega];refine ⟨_,t-1,rfl,by omega,t-1,r+v1,?_,h1,by omega,CX,rfl⟩;rw [Lt (by simp only [go_sem,ya,yM,lL,my,lG,lD,pC hw.pu,wW]) (by simp only [go_sem,ya,yb,yM,au hw.pu])];simp only [go_sem,ya]
  ·have A5:=xP (show t<=999999999 by omega) (show v2<=999999999 by omega);have XJ:r*1000000000+u2<t*v2:=rN.resolve_left hb;obtain ⟨m,hm⟩:∃m,t*v2=m:=⟨_,rfl⟩;have em:(t:Int)*(v2:Int)=(m:Int):=by rw [<-hm,vv]
   rw [hm] at XJ A5;have FC:(r:Int)*1000000000=((r*1000000000:Nat):Int):=by omega
   have Ba:((r*1000000000:Nat):Int)+(u2:Int)=((r*1000000000+u2:Nat):Int):=rfl;by_cases mh:1000000000<=r+v1
   ·right
    obtain ⟨s1,s2⟩:=stop mh
    simp only [go_sem,ya,yi,Ae,H3,show ¬(1000000000:Int)<=(t:Int) by omega,zE,wrapN (n:=n-2) (by omega),po,em,wrapN (n:=m) (by omega),FC,wrapN Zi,Kt,wrapN (n:=pre.length+n) (by omega),Zh,wrapN (n:=pre.length+(n-2)) (by omega),cp 1 0 (show pre.length+(n-2)<M by omega),yg,rO,Ba,wrapN Zj,show ((r*1000000000+u2:Nat):Int)<(m:Int) from ui.2 XJ,Pd,wrapN (n:=t-1) (by omega),pq,wrapN (n:=n-1) (by omega),eK,show (r:Int)+(v1:Int)=((r+v1:Nat):Int) from rfl,wrapN (n:=r+v1) (by omega),show (1000000000:Int)<=((r+v1:Nat):Int) by omega];exact ⟨_,_,rfl,by simp,_,_,t-1,rfl,.inr ⟨rfl,by simp only [go_sem]⟩,rfl,s1,CX,s2⟩
   ·left
    simp only [go_sem,ya,yi,Ae,H3,show ¬(1000000000:Int)<=(t:Int) by omega,zE,wrapN (n:=n-2) (by omega),po,em,wrapN (n:=m) (by omega),FC,wrapN Zi,Kt,wrapN (n:=pre.length+n) (by omega),Zh,wrapN (n:=pre.length+(n-2)) (by omega),cp 1 0 (show pre.length+(n-2)<M by omega),yg,rO,Ba,wrapN Zj,show ((r*1000000000+u2:Nat):Int)<(m:Int) from ui.2 XJ,Pd,wrapN (n:=t-1) (by omega),pq,wrapN (n:=n-1) (by omega),eK,show (r:Int)+(v1:Int)=((r+v1:Nat):Int) from rfl,wrapN (n:=r+v1) (by omega),show ¬(1000000000:Int)<=((r+v1:Nat):Int) by omega];refine ⟨_,t-1,rfl,by omega,t-1,r+v1,?_,h1,by omega,CX,rfl⟩;rw [Lt (by simp only [go_sem,ya,yM,lL,my,lG,lD,pC hw.pu,wW]) (by simp only [go_sem,ya,yb,yM,au hw.pu])];simp only [go_sem,ya]
 ·right
  have jG:t<1000000000:=Nat.lt_of_not_le fun e=>rN (.inl e)
  have A5:=xP (show t<=999999999 from tv jG) (show v2<=999999999 from tv Xf);have XK:t*v2<=r*1000000000+u2:=Nat.le_of_not_lt fun e=>rN (.inr e)
  have aze:=hl.stop jG ht (.inr XK);obtain ⟨m,hm⟩:∃m,t*v2=m:=⟨_,rfl⟩;have em:(t:Int)*(v2:Int)=(m:Int):=by rw [<-hm,vv]
  rw [hm] at XK A5;have FC:(r:Int)*1000000000=((r*1000000000:Nat):Int):=by omega
  have Ba:((r*1000000000:Nat):Int)+(u2:Int)=((r*1000000000+u2:Nat):Int):=rfl
  simp only [go_sem,ya,yi,Ae,H3,show ¬(1000000000:Int)<=(t:Int) by omega,zE,wrapN (n:=n-2) (by omega),po,em,wrapN (n:=m) (by omega),FC,wrapN Zi,Kt,wrapN (n:=pre.length+n) (by omega),Zh,wrapN (n:=pre.length+(n-2)) (by omega),cp 1 0 (show pre.length+(n-2)<M by omega),yg,rO,Ba,wrapN Zj,show ¬((r*1000000000+u2:Nat):Int)<(m:Int) from fun e=>Nat.not_lt_of_le XK (ui.1 e)];exact ⟨_,_,rfl,by simp,_,_,t,rfl,.inl ⟨rfl,by simp only [go_sem,ya]⟩,rfl,jG,hQ,aze⟩
def azf (h:Has P L 301 sR) {w:AV} {x vs pre post qs:List Int} {f:Int} (hw:br w vs) {n v1 v2 u0 u1 u2 M:Nat} (hl:fC x vs n v1 v2 u0 u1 u2) (hM:M=pre.length+x.length+post.length) (Ks:M<=50000000000):
  ∃t:Nat,gZ P L (D P L) (H3 qs (pre++x++post) f) 3 301 [.aC 1 0 M,w,ab pre.length]=some (ab t,H3 qs (pre++x++post) f,3)/\t<1000000000/\dv x/dv vs<=t/\t<=dv x/dv vs+1:=by
 have dV:=hl.n2;have oY:=hl.nb;have hlx:=hl.lx;have rQ:below 3 w:=pC hw.pu;have EX:=hl.Ke;have aA2:=hl.u0W;have N7:=hl.Kf;have rn:=hl.pos;have eK:=pO hw (i:=n-1) (by have:=hl.lv;omega);rw [hl.eJ] at eK;have Bc:=qS (l:=pre++x++post) (o:=pre.length+n) (by rw [nk];omega);rw [Ai (by omega),hl.h0] at Bc;have Be:=qS (l:=pre++x++post) (o:=pre.length+(n-1)) (by rw [nk];omega);rw [Ai (by omega),hl.h1] at Be;have pq:(n:Int)-1=((n-1:Nat):Int):=by omega
 have Kt:(pre.length:Int)+(n:Int)=((pre.length+n:Nat):Int):=rfl;have pn1:((pre.length+n:Nat):Int)-1=((pre.length+(n-1):Nat):Int):=by omega
 obtain ⟨m,hm⟩:∃m,m=u0*1000000000+u1:=⟨_,rfl⟩;have em:(u0:Int)*1000000000=((u0*1000000000:Nat):Int):=by omega
 have em2:((u0*1000000000:Nat):Int)+(u1:Int)=(m:Int):=by omega
 have fy:=xR m v1;have ri:=xp m rn;have Mc:=hl.first;rw [<-hm] at Mc;have aHj:m/v1<=m:=Nat.div_le_self _ _;have oq:IntKind.wrap .i64 ((m:Int).tdiv (v1:Int))=((m/v1:Nat):Int):=by
  rw [xV (by omega),<-Int.natCast_ediv,wrapN (by omega)]
 have or':(m:Int).tmod (v1:Int)=((m%v1:Nat):Int):=by rw [xX (by omega),<-Int.natCast_emod]
 rw [xB] at fy;generalize m/v1=q0 at*
 generalize m%v1=r0 at*
 have iB:∃ex tm t,D P L sR.body ⟨eO 0 [.aC 1 0 M,w,ab pre.length],H3 qs (pre++x++post) f,3,3⟩=some (ex,⟨tm,H3 qs (pre++x++post) f,3,3⟩)/\(ex= .normal\/ex= .ret)/\aj tm 6=ab (t:Nat)/\t<1000000000/\dv x/dv vs<=t/\t<=dv x/dv vs+1:=by
  simp only [go_sem,ya,yi,sR,H3,hw.len,hl.lv,Kt,wrapN (n:=pre.length+n) (by omega),cp 1 0 (show pre.length+n<M by omega),yg,Bc,em,wrapN (n:=u0*1000000000) (by omega),pn1,wrapN (n:=pre.length+(n-1)) (by omega),cp 1 0 (show pre.length+(n-1)<M by omega),Be,em2,wrapN (n:=m) (by omega),pq,wrapN (n:=n-1) (by omega),eK,fO _ _ _ (show (v1:Int)≠0 by omega),iq _ _ _ (show (v1:Int)≠0 by omega),oq,or'];generalize mj:D P L (.loop [0,1,2,7,9,10] Ae) _=qq;obtain ⟨ex,s,rfl,tm,ct,t,rfl,ES,rfl,g1,g2,g3⟩:=bI mj (atq (P:=P) (L:=L) (qs:=qs) (f:=f) hw hl hM Ks q0) ⟨q0,r0,by
   rw [Lt (by simp only [go_sem,ya,yM,lL,my,lG,lD,rQ,wW]) (by simp only [go_sem,ya,yb,yM,au hw.pu])]
   simp only [go_sem,ya],by omega,by omega,Mc,rfl⟩
  rcases ES with ⟨rfl,h9⟩ | ⟨rfl,h6⟩
  ·simp only [go_sem,yM,H3,Lt,lL,lG,lD,h9,and_self];exact ⟨_,_,t,rfl,.inr rfl,by simp only [go_sem],g1,g2,g3⟩
  ·simp only [go_sem];exact ⟨_,_,t,rfl,.inr rfl,h6,g1,g2,g3⟩
 obtain ⟨ex,tm,t,g1,g2,g3,g4,g5,g6⟩:=iB;exact ⟨t,QX h g1 g2 (by show ik _ [RV.t 6]=_;rw [W7,R4,g3]),g4,g5,g6⟩
end
end
section
open Go (IntKind)
def aA3 {t v bo:Int} (ht:0<=t/\t<1000000000) (hv:0<=v/\v<1000000000) (hb:0<=bo/\bo<1000000000):0<=t*v/\t*v<=999999998000000001/\0<=t*v+bo/\t*v+bo<=999999999000000000:=by
 have h1:=tu ht.1 hv.1;have h2:=Int.mul_le_mul (show t<=999999999 by omega) (show v<=999999999 by omega) hv.1 (by decide);omega
def aA4 {x p:Int} (hx:0<=x/\x<1000000000) (hp:0<=p/\p<=999999999000000000):
  (x-p.tmod 1000000000<0->0<=x-p.tmod 1000000000+1000000000/\x-p.tmod 1000000000+1000000000<1000000000/\0<=p.tdiv 1000000000+1/\p.tdiv 1000000000+1<1000000000/\x-p.tmod 1000000000+1000000000+p=x+1000000000*(p.tdiv 1000000000+1))/\
  (¬x-p.tmod 1000000000<0->x-p.tmod 1000000000<1000000000/\0<=p.tdiv 1000000000/\p.tdiv 1000000000<1000000000/\x-p.tmod 1000000000+p=x+1000000000*p.tdiv 1000000000):=by grind
def Q6 {l:List Int} (h:dg l) {i:Nat} {z:Int} (hz:0<=z/\z<1000000000):dg (l.set i z):=L7 h hz
def atr {b p z q v bo zF x X Y S:Int} (h2:z+(q*v+bo)=x+b*zF) (h3:Y+q*X=S+p*bo):(Y+p*(z-x))+q*(X+p*v)=S+p*b*zF:=by grind
section
variable {P:aH} {L:Lib}
def ats {w:AV} {x vs pre post qs:List Int} {f:Int} (hw:br w vs) {n M m:Nat} (lv:vs.length=n) (hM:M=pre.length+(n+1)+post.length) (Ks:M<=50000000000) (gv:dg vs) {t:Int} (ht:0<=t/\t<1000000000):
  ∀k s,(∃(i:Nat) (bo:Int) (y:List Int),aQ [8,9,10,11,12,13,14,15,16] s=⟨[(8,.aC 0 0 1),(9,w),(10,ab n),(11,.aC 1 0 M),(12,.aC 2 0 m),(13,ab pre.length),(14,ab t),(15,ab bo),(16,ab i)],H3 qs (pre++y++post) f,3,0⟩/\i+k=n/\y.length=n+1/\dg y/\(0<=bo/\bo<1000000000)/\
    sv y+t*sv (vs.take i)=sv x+1000000000^i*bo)->
   ∃ex s',D P L (.loop [8,9,10,11,12,13,14,15,16] D0) s=some (ex,s')/\∃tm bo y,s'=⟨tm,H3 qs (pre++y++post) f,3,0⟩/\ex= .exit 4/\aj tm 8= .aC 0 0 1/\aj tm 9=w/\aj tm 10=ab n/\aj tm 11= .aC 1 0 M/\aj tm 12= .aC 2 0 m/\aj tm 13=ab pre.length/\aj tm 14=ab t/\aj tm 15=ab bo/\y.length=n+1/\dg y/\(0<=bo/\bo<1000000000)/\
    sv y+t*sv vs=sv x+1000000000^n*bo:=by
 intro dq sq;generalize bk:aQ [8,9,10,11,12,13,14,15,16] sq=s0;revert bk s0 sq dq;apply di;rintro k s ⟨i,bo,y,rfl,hk,ly,gy,iH,aO⟩;by_cases hi:i<n
 ·left
  have p6:=gN gv i;have pw:=gN gy i;have ev:=pO hw (i:=i) (by omega);have ey:=qS (l:=pre++y++post) (o:=pre.length+i) (by rw [nk];omega);rw [Ai (by omega)] at ey;have eD:=LU (l:=vs) i;obtain ⟨a,ha⟩:∃a,a=vs.getD i 0:=⟨_,rfl⟩;obtain ⟨d,hd⟩:∃d,d=y.getD i 0:=⟨_,rfl⟩;rw [<-ha] at p6 ev eD;rw [<-hd] at pw ey;obtain ⟨p1,p2,p3,p4⟩:=aA3 ht p6 iH;obtain ⟨s1,s2⟩:=aA4 pw ⟨p3,p4⟩;have eP:(i:Int)+(pre.length:Int)=((pre.length+i:Nat):Int):=by omega
  have aP:=fun (hp:Hp) (ct:Nat) (z:Int)=>Bl (hp:=hp) (ct:=ct) (id:=1) (v:=z) (ex:=false) (l:=pre++y++post) (o:=pre.length+i) (by rw [nk];omega)
  have nv:=fun z=>Me (pre:=pre) (x:=y) (post:=post) (i:=i) z (by omega)
  have bc:=fun z=>D9 (l:=y) (i:=i) (x:=z) (by omega)
  rw [<-hd] at bc;obtain ⟨pr,gF⟩:∃pr,pr=t*a+bo:=⟨_,rfl⟩;obtain ⟨dm,fy⟩:∃dm,pr.tmod 1000000000=dm:=⟨_,rfl⟩;obtain ⟨dq,C2⟩:∃dq,pr.tdiv 1000000000=dq:=⟨_,rfl⟩;have aHk:0<=dm/\dm<1000000000:=by rw [<-fy,xX (by omega)];omega
  have aHl:0<=dq/\dq<1000000000:=by rw [<-C2,xV (by omega)];omega
  rw [<-gF,fy,C2] at s1 s2;have key:∀z zF,z+(t*a+bo)=d+1000000000*zF->sv (y.set i z)+t*sv (vs.take (i+1))=sv x+1000000000^(i+1)*zF:=fun z zF h=>by
   rw [bc,eD,uR];exact atr h aO
  rw [<-gF] at key;by_cases gC:d-dm<0
  ·obtain ⟨q1,q2,q3,q4,q5⟩:=s1 gC;have kk:=key _ _ q5;obtain ⟨dr,gV⟩:∃dr,d-dm=dr:=⟨_,rfl⟩;rw [gV] at gC kk q1 q2
   simp only [go_sem,ya,yi,D0,H3,show (i:Int)<(n:Int) by omega,ev,wrap64 (n:=t*a) (by omega) (by omega),<-gF,wrap64 (n:=pr) (by omega) (by omega),eP,wrapN (n:=pre.length+i) (by omega),cp 1 0 (show pre.length+i<M by omega),yg,ey,iq _ _ _ (show (1000000000:Int)≠0 by decide),fO _ _ _ (show (1000000000:Int)≠0 by decide),fy,C2,gV,wrap64 (n:=dr) (by omega) (by omega),wrap64 (n:=dq) (by omega) (by omega),gC,wrap64 (n:=dr+1000000000) (by omega) (by omega),wrap64 (n:=dq+1) (by omega) (by omega),aP,nv];refine ⟨_,k-1,rfl,by omega,i+1,dq+1,y.set i (dr+1000000000),?_,by omega,by simp [ly],Q6 gy ⟨q1,q2⟩,⟨q3,q4⟩,kk⟩;rw [wrap64 (by omega) (by omega)];simp only [go_sem,ya,yb,av,au hw.pu,ax _ hw.pu]<;>rfl
  ·obtain ⟨q2,q3,q4,q5⟩:=s2 gC;have kk:=key _ _ q5;obtain ⟨dr,gV⟩:∃dr,d-dm=dr:=⟨_,rfl⟩;rw [gV] at gC kk q2
   simp only [go_sem,ya,yi,D0,H3,show (i:Int)<(n:Int) by omega,ev,wrap64 (n:=t*a) (by omega) (by omega),<-gF,wrap64 (n:=pr) (by omega) (by omega),eP,wrapN (n:=pre.length+i) (by omega),cp 1 0 (show pre.length+i<M by omega),yg,ey,iq _ _ _ (show (1000000000:Int)≠0 by decide),fO _ _ _ (show (1000000000:Int)≠0 by decide),fy,C2,gV,wrap64 (n:=dr) (by omega) (by omega),wrap64 (n:=dq) (by omega) (by omega),gC,aP,nv];refine ⟨_,k-1,rfl,by omega,i+1,dq,y.set i dr,?_,by omega,by simp [ly],Q6 gy ⟨by omega,q2⟩,⟨q3,q4⟩,kk⟩;rw [wrap64 (by omega) (by omega)];simp only [go_sem,ya,yb,av,au hw.pu,ax _ hw.pu]<;>rfl
 ·right
  have:i=n:=by omega
  subst this;rw [yN (by omega)] at aO;simp only [go_sem,ya,D0,H3,show ¬(i:Int)<(i:Int) by omega];exact ⟨_,_,rfl,by simp,_,bo,y,rfl,rfl,by simp only [go_sem,ya],by simp only [go_sem,ya],by simp only [go_sem,ya],by simp only [go_sem,ya],by simp only [go_sem,ya],by simp only [go_sem,ya],by simp only [go_sem,ya],by simp only [go_sem,ya],ly,gy,iH,aO⟩
def att {b p z v c c' x X Y S:Int} (h2:z+b*c'=x+v+c) (h3:Y+p*c=S+X):(Y+p*(z-x))+p*b*c'=S+(X+p*v):=by grind
def atu {w:AV} {y0 vs pre post qs:List Int} {f:Int} (hw:br w vs) {n M m:Nat} (lv:vs.length=n) (hM:M=pre.length+(n+1)+post.length) (Ks:M<=50000000000) (gv:dg vs) {t top:Int}:
  ∀k s,(∃(i:Nat) (c:Int) (y:List Int),aQ [8,9,10,11,12,13,14,19,20] s=⟨[(8,.aC 0 0 1),(9,w),(10,ab n),(11,.aC 1 0 M),(12,.aC 2 0 m),(13,ab pre.length),(14,ab t),(19,ab c),(20,ab i)],H3 qs (pre++y++post) f,3,0⟩/\i+k=n/\y.length=n+1/\dg (y.take n)/\y.getD n 0=top/\(0<=c/\c<=1)/\
    sv y+1000000000^i*c=sv y0+sv (vs.take i))->
   ∃ex s',D P L (.loop [8,9,10,11,12,13,14,19,20] HU) s=some (ex,s')/\∃tm c y,s'=⟨tm,H3 qs (pre++y++post) f,3,0⟩/\ex= .exit 6/\aj tm 8= .aC 0 0 1/\aj tm 9=w/\aj tm 10=ab n/\aj tm 11= .aC 1 0 M/\aj tm 12= .aC 2 0 m/\aj tm 13=ab pre.length/\aj tm 14=ab t/\aj tm 19=ab c/\y.length=n+1/\dg (y.take n)/\y.getD n 0=top/\(0<=c/\c<=1)/\
    sv y+1000000000^n*c=sv y0+sv vs:=by
 intro dq sq;generalize bk:aQ [8,9,10,11,12,13,14,19,20] sq=s0;revert bk s0 sq dq;apply di;rintro k s ⟨i,c,y,rfl,hk,ly,gy,nA,hc,aO⟩;by_cases hi:i<n
 ·left
  have p6:=gN gv i;have pw:=gN gy i;have e0:(y.take n).getD i 0=y.getD i 0:=by
   simp [yz,hi]
  rw [e0] at pw;have ev:=pO hw (i:=i) (by omega);have ey:=qS (l:=pre++y++post) (o:=pre.length+i) (by rw [nk];omega);rw [Ai (by omega)] at ey;have eD:=LU (l:=vs) i;obtain ⟨a,ha⟩:∃a,a=vs.getD i 0:=⟨_,rfl⟩;obtain ⟨d,hd⟩:∃d,d=y.getD i 0:=⟨_,rfl⟩;rw [<-ha] at p6 ev eD;rw [<-hd] at pw ey;have eP:(i:Int)+(pre.length:Int)=((pre.length+i:Nat):Int):=by omega
  have bc:=fun z=>D9 (l:=y) (i:=i) (x:=z) (by omega)
  rw [<-hd] at bc;have ri:(d+a+c).tmod 1000000000=(d+a+c)%1000000000:=xX (by omega);have hdiv:(d+a+c).tdiv 1000000000=(d+a+c)/1000000000:=xV (by omega);obtain ⟨z,hz⟩:∃z,z=(d+a+c)%1000000000:=⟨_,rfl⟩;obtain ⟨c',kD⟩:∃z,z=(d+a+c)/1000000000:=⟨_,rfl⟩;have Fh:z+1000000000*c'=d+a+c:=by omega
  rw [<-hz] at ri;rw [<-kD] at hdiv;have aP:=fun (hp:Hp) (ct:Nat)=>Bl (hp:=hp) (ct:=ct) (id:=1) (v:=z) (ex:=false) (l:=pre++y++post) (o:=pre.length+i) (by rw [nk];omega)
  have nv:=Me (pre:=pre) (x:=y) (post:=post) (i:=i) z (by omega)
  simp only [go_sem,ya,yi,HU,H3,show (i:Int)<(n:Int) by omega,ev,eP,wrapN (n:=pre.length+i) (by omega),cp 1 0 (show pre.length+i<M by omega),yg,ey,wrap64 (n:=d+a) (by omega) (by omega),wrap64 (n:=d+a+c) (by omega) (by omega),iq _ _ _ (show (1000000000:Int)≠0 by decide),fO _ _ _ (show (1000000000:Int)≠0 by decide),ri,hdiv,wrap64 (n:=c') (by omega) (by omega),aP,nv];refine ⟨_,k-1,rfl,by omega,i+1,c',y.set i z,?_,by omega,by simp [ly],?_,by rw [agW (by omega)];exact nA,⟨by omega,by omega⟩,?_⟩
  ·rw [wrap64 (by omega) (by omega)];simp only [go_sem,ya,yb,av,au hw.pu,ax _ hw.pu]<;>rfl
  ·rw [tB];exact Q6 gy ⟨by omega,by omega⟩
  ·rw [bc,eD,uR];exact att Fh aO
 ·right
  have:i=n:=by omega
  subst this;rw [yN (show vs.length<=i by omega)] at aO;simp only [go_sem,ya,HU,H3,show ¬(i:Int)<(i:Int) by omega];exact ⟨_,_,rfl,by simp,_,c,y,rfl,rfl,by simp only [go_sem,ya],by simp only [go_sem,ya],by simp only [go_sem,ya],by simp only [go_sem,ya],by simp only [go_sem,ya],by simp only [go_sem,ya],by simp only [go_sem,ya],by simp only [go_sem,ya],ly,gy,nA,hc,aO⟩
def atv {A V t:Nat} {y:List Int} {n:Nat} (hV:0<V) (ly:y.length=n+1) (gy:dg (y.take n)) (h:sv y=(A:Int)-t*V) (h1:A/V<=t) (h2:t<=A/V+1):
  (¬y.getD n 0<0->t=A/V/\sv y=((A%V:Nat):Int))/\(y.getD n 0<0->t=A/V+1/\sv y+V=((A%V:Nat):Int)):=by
 have fy:=xR A V;have hm:=xp A hV;have eD:=LU (l:=y) n;rw [yN (by omega),sM gy] at eD;have Jv:=jh gy;have hp:(0:Int)<1000000000^n:=ybR (by decide);generalize y.getD n 0=top at*
 generalize A/V=Q at*
 have hq:t=Q\/t=Q+1:=by omega
 constructor
 ·intro h0;have h3:0<=(1000000000:Int)^n*top:=tu (uk hp) (by omega);rcases hq with rfl | rfl
  ·grind
  ·grind
 ·intro h0;have h3:(1000000000:Int)^n*top<=-(1000000000^n):=by
   have:=vL (show top<=-1 by omega) (uk hp)
   grind
  rcases hq with rfl | rfl
  ·grind
  ·grind
def acA {y:List Int} {n:Nat} (ly:y.length=n+1) (gy:dg (y.take n)) (h0:0<=sv y) (h1:sv y<1000000000^n):y.getD n 0=0/\dg y/\sv y=dv y:=by
 have eD:=LU (l:=y) n;rw [yN (by omega),sM gy] at eD;have Jv:=jh gy;rw [yI,xE (by omega)] at Jv;have hp:(0:Int)<1000000000^n:=ybR (by decide);have Eg:((1000000000^n:Nat):Int)=(1000000000:Int)^n:=by simp
 have aG5:(dv (y.take n):Int)<1000000000^n:=by omega
 have ht:y.getD n 0=0:=by
  generalize y.getD n 0=top at*
  rcases Int.lt_trichotomy top 0 with h | h | h
  ·have:=vL (show top<=-1 by omega) (uk hp)
   grind
  ·grind
  ·have:=vL (show 1<=top by omega) (uk hp)
   grind
 have hg:dg y:=by
  have e:y=y.take n++[0]:=by
   have h1:y=y.take n++y.drop n:=(xS n y).symm;have h2:y.drop n=[0]:=by
    rw [yX (by omega),xj (by omega)]
    grind
   grind
  rw [e];exact gM.2 ⟨gy,kK.2 ⟨by decide,by decide⟩⟩
 exact ⟨ht,hg,sM hg⟩
end
end
section
open Go (IntKind)
def atw {l:List Int} {i:Nat} (h:i<l.length):dv (l.drop i)=(l.getD i 0).toNat+1000000000*dv (l.drop (i+1)):=by
 rw [yX h]
 have:l[i]=l.getD i 0:=by simp_all
 rw [this];rfl
def QC (l:List Int) (i:Nat) (h:i<=l.length):dv l=dv (l.take i)+1000000000^i*dv (l.drop i):=by
 conv=>lhs;rw [<-xS i l]
 rw [mr,yI,xE h]
def atx {sx sy sV:Int} {p:Int} {bo t:Int} {yn z:Int} {szy:Int} (h1:sy+t*sV=sx+p*bo) (h2:szy=sy+p*(z-yn)) (h3:z=yn-bo):szy=sx-t*sV:=by grind
section
variable {P:aH} {L:Lib}
def aty (pU:Has P L 301 sR) {w:AV} {vs:List Int} {f:Int} (hw:br w vs) (gv:dg vs) {n M m:Nat} (lv:vs.length=n) (dV:2<=n) (hnM:n<M) (Ks:M<=20000000000) (hm:m=M-n) (eJ:0<vs.getD (n-1) 0) {U0:Nat}:
  ∀k st,(∃(j:Nat) (us qs:List Int),aQ [8,9,10,11,12,13] st=⟨[(8,.aC 0 0 1),(9,w),(10,ab n),(11,.aC 1 0 M),(12,.aC 2 0 m),(13,ab ((j:Int)-1))],H3 qs us f,3,0⟩/\j=k/\j<=m/\us.length=M/\qs.length=m/\dg us/\dg qs/\(∀i,i<j->qs.getD i 0=0)/\
    dv us+dv qs*dv vs=U0/\dv (us.drop j)<dv vs)->
   ∃ex st',D P L (.loop [8,9,10,11,12,13] HV) st=some (ex,st')/\∃tm us qs,st'=⟨tm,H3 qs us f,3,0⟩/\ex= .exit 2/\aj tm 8= .aC 0 0 1/\aj tm 10=ab n/\aj tm 11= .aC 1 0 M/\aj tm 12= .aC 2 0 m/\us.length=M/\qs.length=m/\dg us/\dg qs/\
    dv us+dv qs*dv vs=U0/\dv us<dv vs:=by
 intro dq sq;generalize bk:aQ [8,9,10,11,12,13] sq=s0;revert bk s0 sq dq;apply di;rintro k st ⟨j,us,qs,rfl,rfl,hj,lu,lq,gu,gq,hz,aO,nA⟩
 cases j with
 | zero=>
  right
  simp only [go_sem,ya,HV,H3,show ¬(0:Int)<=((0:Nat):Int)-1 by omega];exact ⟨_,_,rfl,by simp,_,us,qs,rfl,rfl,by simp only [go_sem,ya],by simp only [go_sem,ya],by simp only [go_sem,ya],by simp only [go_sem,ya],lu,lq,gu,gq,aO,by simpa using nA⟩
 | succ j=>
  left
  obtain ⟨pre,eP⟩:∃p,p=us.take j:=⟨_,rfl⟩;obtain ⟨x,hx⟩:∃p,p=(us.drop j).take (n+1):=⟨_,rfl⟩;obtain ⟨post,fG⟩:∃p,p=us.drop (j+(n+1)):=⟨_,rfl⟩;have lp:pre.length=j:=by rw [eP,yI];omega
  have lx:x.length=n+1:=by rw [hx,yI,xT];omega
  have lpo:M=pre.length+(n+1)+post.length:=by rw [lp,fG,xT];omega
  have ju:us=pre++x++post:=by
   rw [eP,hx,fG,<-vH,xu,xS,xS]
  have gpo:dg post:=by
   have:=gu;rw [ju] at this;exact (gM.1 this).2
  have gpx:=by have:=gu;rw [ju] at this;exact (gM.1 this).1
  have gx:dg x:=(gM.1 gpx).2;have Xi:dg pre:=(gM.1 gpx).1;have hA:=atw (l:=us) (i:=j) (by omega);have CZ:=gN gu j;have YX:us.drop j=x++post:=by rw [fG,hx,<-vH,xS]
  have zH:dv (us.drop j)=dv x+1000000000^(n+1)*dv post:=by rw [YX,mr,lx]
  have Kh:=jh gv;rw [lv] at Kh;have aW:dv (us.drop j)<1000000000*dv vs:=by omega
  have hp0:dv post=0:=by
   rcases xn (dv post) with e | e
   ·exact e
   ·have h1:=yW (1000000000^(n+1)) e;rw [yi,xc] at h1;rw [xc] at zH;omega
  rw [hp0,xD,yZ] at zH;have Ku:=fun (l:List Int) (hl:dg l) (i:Nat)=>gN hl i
  obtain ⟨v1,eK⟩:∃v:Nat,vs.getD (n-1) 0=v:=⟨(vs.getD (n-1) 0).toNat,by have:=Ku vs gv (n-1);omega⟩;obtain ⟨v2,po⟩:∃v:Nat,vs.getD (n-2) 0=v:=⟨(vs.getD (n-2) 0).toNat,by have:=Ku vs gv (n-2);omega⟩;obtain ⟨u0,Bc⟩:∃v:Nat,x.getD n 0=v:=⟨(x.getD n 0).toNat,by have:=Ku x gx n;omega⟩;obtain ⟨u1,Be⟩:∃v:Nat,x.getD (n-1) 0=v:=⟨(x.getD (n-1) 0).toNat,by have:=Ku x gx (n-1);omega⟩;obtain ⟨u2,rO⟩:∃v:Nat,x.getD (n-2) 0=v:=⟨(x.getD (n-2) 0).toNat,by have:=Ku x gx (n-2);omega⟩;have hl:fC x vs n v1 v2 u0 u1 u2:=⟨dV,by omega,lx,lv,gx,gv,eK,po,Bc,Be,rO,by omega,by rw [<-zH];exact aW⟩
  have N8:=hl.digit;have p0:0<dv vs:=by omega
  have ri:=xp (dv x) p0;obtain ⟨t,e1,ht1,Ym,ht3⟩:=azf (P:=P) (L:=L) pU hw hl (pre:=pre) (post:=post) (qs:=qs) (f:=f) (M:=M) (by omega) (by omega);rw [<-ju,lp] at e1;have YZ:dv us=dv pre+1000000000^j*dv x:=by
   have:=QC us j (by omega)
   rw [zH,<-eP] at this;exact this
  have Xj:∀y,dv (pre++y++post)=dv pre+1000000000^j*dv y:=fun y=>by
   rw [xu,mr,mr,hp0,xD,yZ,lp]
  have kR:=abu (b:=0) YZ aO;have rQ:below 3 w:=pC hw.pu;have bc:=D9 (l:=qs) (i:=j) (x:=((dv x/dv vs:Nat):Int)) (by omega);have gq':dg (qs.set j ((dv x/dv vs:Nat):Int)):=L7 gq ⟨tn _,ui.2 N8⟩;rw [hz j (by omega),Int.sub_zero,sM gq,sM gq'] at bc;have bc:dv (qs.set j ((dv x/dv vs:Nat):Int))=dv qs+1000000000^j*(dv x/dv vs):=by
   have Eg:((1000000000^j*(dv x/dv vs):Nat):Int)=(1000000000:Int)^j*((dv x/dv vs:Nat):Int):=by rw [vv];simp
   rw [<-Eg] at bc;exact tc (by rw [yaa,yaa,bc,yaM])
  have fin:∀(s':St) (x':List Int),aQ [8,9,10,11,12,13] s'=⟨[(8,.aC 0 0 1),(9,w),(10,ab n),(11,.aC 1 0 M),(12,.aC 2 0 m),(13,ab ((j:Int)-1))],H3 (qs.set j ((dv x/dv vs:Nat):Int)) (pre++x'++post) f,3,0⟩->x'.length=n+1->dg x'->sv x'=((dv x%dv vs:Nat):Int)->
    ∃(j':Nat) (us qs:List Int),aQ [8,9,10,11,12,13] s'=⟨[(8,.aC 0 0 1),(9,w),(10,ab n),(11,.aC 1 0 M),(12,.aC 2 0 m),(13,ab ((j':Int)-1))],H3 qs us f,3,0⟩/\j'=j/\j'<=m/\us.length=M/\qs.length=m/\dg us/\dg qs/\(∀i,i<j'->qs.getD i 0=0)/\dv us+dv qs*dv vs=U0/\dv (us.drop j')<dv vs:=fun s' x' hc YY O1 Kk=>by
   have ajN:dv x'=dv x%dv vs:=by rw [sM O1] at Kk;exact tc Kk
   refine ⟨j,_,_,hc,rfl,by omega,by rw [nk,YY];omega,by simp [lq],gM.2 ⟨gM.2 ⟨Xi,O1⟩,gpo⟩,gq',fun i hi=>by rw [agW (by omega)];exact hz i (by omega),?_,?_⟩
   ·rw [Xj,ajN,bc];exact kR
   ·rw [xu,List.drop_left' lp,mr,hp0,xD,yZ,ajN];exact ri
  have ajO:=fun (z:Int) (hp:Hp) (ct:Nat)=>Bl (hp:=hp) (ct:=ct) (id:=2) (v:=z) (ex:=true) (l:=qs) (o:=j) (by omega)
  have svx:=sM gx;have svv:=sM gv;simp only [H3] at e1;simp only [go_sem,ya,HV,H3,show ((j+1:Nat):Int)-1=(j:Int) by omega,show (0:Int)<=(j:Int) by omega,ahy,e1];generalize mj:D P L (.loop [8,9,10,11,12,13,14,15,16] D0) _=qq;obtain ⟨ex,s,rfl,tm,bo,y,rfl,rfl,t8,t9,t10,t11,t12,t13,t14,t15,ly,gy,iH,hv⟩:=bI mj (ats (P:=P) (L:=L) (x:=x) (pre:=pre) (post:=post) (qs:=qs) (f:=f) (m:=m) (M:=M) hw lv lpo (by omega) gv (t:=t) (by omega) n) ⟨0,0,x,by
   rw [ju,lp]
   simp only [go_sem,ya,yb,av,au hw.pu,ax _ hw.pu]<;>rfl,by omega,lx,gx,by omega,by simp [sv]⟩
  rw [lp] at t13;have hyn:=gN gy n;have Zk:=qS (l:=pre++y++post) (o:=pre.length+n) (by rw [nk];omega);rw [Ai (by omega),lp] at Zk;obtain ⟨z,Zl⟩:∃z,z=y.getD n 0-bo:=⟨_,rfl⟩;have qV:=fun (hp:Hp) (ct:Nat)=>Bl (hp:=hp) (ct:=ct) (id:=1) (v:=z) (ex:=false) (l:=pre++y++post) (o:=j+n) (by rw [nk];omega)
  have nv:=Me (pre:=pre) (x:=y) (post:=post) (i:=n) z (by omega);rw [lp] at nv;rw [nv] at qV;have mP:=D9 (l:=y) (i:=n) (x:=z) (by omega);have ML:=atx hv mP Zl;have Bb:(y.set n z).length=n+1:=by simp [ly]
  have CY:dg ((y.set n z).take n):=by
   have:(y.set n z).take n=y.take n:=by rw [tB,tA (by simp;omega)]
   rw [this];exact BG gy n
  rw [svx,svv] at ML;obtain ⟨s0,s1⟩:=atv p0 Bb CY ML Ym ht3;have eg:(y.set n z).getD n 0=z:=apg (by omega);rw [eg] at s0 s1;have Zm:=qS (l:=pre++y.set n z++post) (o:=pre.length+n) (by rw [nk];omega);rw [Ai (by omega),lp,eg] at Zm;generalize y.set n z=y1 at*
  have rS:((10^9:Int))=1000000000:=by decide
  by_cases gC:z<0
  ·obtain ⟨f1,f2⟩:=s1 gC
   simp only [go_sem,ya,yb,yi,av,au hw.pu,ax _ hw.pu,t8,t9,t10,t11,t12,t13,t14,t15,show (j:Int)+(n:Int)=((j+n:Nat):Int) from rfl,wrapN (n:=j+n) (by omega),cp 1 0 (show j+n<M by omega),yg,Zk,<-Zl,wrap64 (n:=z) (by omega) (by omega),qV,Zm,gC];generalize CC:D P L (.loop [8,9,10,11,12,13,14,19,20] HU) _=YS;obtain ⟨ex,s,rfl,ru,c,y2,rfl,rfl,t8,t9,t10,t11,t12,t13,t14,t19,YU,OZ,ahD,hc,dt⟩:=bI CC (atu (P:=P) (L:=L) (y0:=y1) (pre:=pre) (post:=post) (qs:=qs) (f:=f) (m:=m) (M:=M) (t:=(t:Int)-1) (top:=z) hw lv lpo (by omega) gv n) ⟨0,0,y1,by
    rw [lp,wrap64 (n:=(t:Int)-1) (by omega) (by omega)]
    simp only [go_sem,ya,yb,av,au hw.pu,ax _ hw.pu]<;>rfl,by omega,Bb,CY,eg,by omega,by simp [sv]⟩
   rw [lp] at t13;have ajP:=qS (l:=pre++y2++post) (o:=pre.length+n) (by rw [nk];omega);rw [Ai (by omega),lp,ahD] at ajP;have N6:=fun (hp:Hp) (ct:Nat)=>Bl (hp:=hp) (ct:=ct) (id:=1) (v:=z+c) (ex:=false) (l:=pre++y2++post) (o:=j+n) (by rw [nk];omega)
   have MA:=Me (pre:=pre) (x:=y2) (post:=post) (i:=n) (z+c) (by omega);rw [lp] at MA;rw [MA] at N6;have zt:=D9 (l:=y2) (i:=n) (x:=z+c) (by omega);rw [ahD,show z+c-z=c by omega,dt,svv,f2] at zt;have Ki:(y2.set n (z+c)).length=n+1:=by simp [YU]
   have O0:dg ((y2.set n (z+c)).take n):=by
    have:(y2.set n (z+c)).take n=y2.take n:=by rw [tB,tA (by simp;omega)]
    rw [this];exact OZ
   have Zn:((dv x%dv vs:Nat):Int)<1000000000^n:=by
    have Eg:((1000000000^n:Nat):Int)=(1000000000:Int)^n:=by simp
    rw [<-Eg];omega
   obtain ⟨g1,g2,g3⟩:=acA Ki O0 (by rw [zt];omega) (by rw [zt];exact Zn)
   generalize y2.set n (z+c)=y3 at*
   have ft:(t:Int)-1=((dv x/dv vs:Nat):Int):=by rw [f1];omega
   simp only [go_sem,ya,yb,yi,av,au hw.pu,ax _ hw.pu,t8,t9,t10,t11,t12,t13,t14,t19,show (j:Int)+(n:Int)=((j+n:Nat):Int) from rfl,wrapN (n:=j+n) (by omega),cp 1 0 (show j+n<M by omega),yg,ajP,wrap64 (n:=z+c) (by omega) (by omega),N6,cp 2 0 (show j<m by omega),ajO];rw [ft];refine ⟨_,j,rfl,by omega,fin _ y3 ?_ Ki g2 zt⟩;rw [wrap64 (by omega) (by omega)];simp only [go_sem,ya,yb,av,au hw.pu,ax _ hw.pu]<;>rfl
  ·obtain ⟨f1,f2⟩:=s0 gC;have Zn:((dv x%dv vs:Nat):Int)<1000000000^n:=by
    have Eg:((1000000000^n:Nat):Int)=(1000000000:Int)^n:=by simp
    rw [<-Eg];omega
   obtain ⟨g1,g2,g3⟩:=acA Bb CY (by rw [f2];omega) (by rw [f2];exact Zn)
   simp only [go_sem,ya,yb,yi,av,au hw.pu,ax _ hw.pu,t8,t9,t10,t11,t12,t13,t14,t15,show (j:Int)+(n:Int)=((j+n:Nat):Int) from rfl,wrapN (n:=j+n) (by omega),cp 1 0 (show j+n<M by omega),yg,Zk,<-Zl,wrap64 (n:=z) (by omega) (by omega),qV,Zm,gC,cp 2 0 (show j<m by omega),ajO];rw [f1];refine ⟨_,j,rfl,by omega,fin _ y1 ?_ Bb g2 f2⟩;rw [wrap64 (by omega) (by omega)];simp only [go_sem,ya,yb,av,au hw.pu,ax _ hw.pu]<;>rfl
end
end
section
open Go (IntKind)
section
variable {P:aH} {L:Lib}
def axt (h:Has P L 292 sQ) {n:Nat} (hn:n<1000000000):ak P L 292 [ab n,ab 9] (.str (ib 9 n)):=by
 have key:=fN (P:=P) (L:=L) (live:=[0,1,5]) (a:=nh)
  (I:=fun k st=>∃(m:Nat) (s:List Nat),st=⟨[(0,ab m),(1,ab 9),(5,.str s)],[],0,0⟩/\s.length+k=9/\m<10^k/\ib 9 n=ib k m++s)
  (Q:=fun ex st=>∃tm ct,st=⟨tm,[],ct,0⟩/\ex= .exit 0/\aj tm 5= .str (ib 9 n)) ?_
 ·unfold ak;rw [aI h];simp only [go_sem,sQ];generalize hq:D P L (.loop [0,1,5] nh) _=q;obtain ⟨ex,st,rfl,tm,ct,rfl,rfl,h2⟩:=bI hq (key 9) ⟨n,[],by simp only [go_sem,ya,av]<;>rfl,rfl,by omega,by simp⟩
  simp only [go_sem,av,h2]
 ·rintro k st ⟨m,s,rfl,hk,hm,hs⟩
  cases k with
  | zero=>
   right
   have hm0:m=0:=by simpa using hm
   subst hm0;simp only [go_sem,ya,nh,show ¬(0:Int)<((0:Nat):Int) by omega,show ¬((s.length:Nat):Int)<9 by omega];refine ⟨_,_,rfl,by simp,_,_,rfl,rfl,?_⟩;rw [hs];rfl
  | succ k=>
   left
   have hr:((m:Int)).tmod 10=((m%10:Nat):Int):=by rw [xX (by omega)];rfl
   have hq:((m:Int)).tdiv 10=((m/10:Nat):Int):=by rw [xV (by omega)];rfl
   have hd:=aaG (r:=m%10) (by omega);have JL:m<10000000000:=yV hm (by simpa using xb (show 0<10 by decide) (show k+1<=10 by omega));have fin:∃s',D P L nh ⟨[(0,ab m),(1,ab 9),(5,.str s)],[],0,0⟩=some (.normal,s')/\aQ [0,1,5] s'=⟨[(0,ab (m/10:Nat)),(1,ab 9),(5,.str ([48+m%10]++s))],[],0,0⟩:=by
    by_cases hc:(0:Int)<m
    ·simp only [go_sem,ya,yb,nh,hc,iq _ _ _ (show (10:Int)≠0 by decide),fO _ _ _ (show (10:Int)≠0 by decide),hr,hq,wrapN (n:=m%10+1) (by omega),wrap64 (n:=((m/10:Nat):Int)) (by omega) (by omega),eG,dD,show ((m%10:Nat):Int)+1=((m%10+1:Nat):Int) from rfl,hd,fZ (a:=[48+m%10]) (b:=s) (by simp;omega)];exact ⟨_,rfl,by simp only [go_sem,ya,av]⟩
    ·simp only [go_sem,ya,yb,nh,hc,show ((s.length:Nat):Int)<9 by omega,iq _ _ _ (show (10:Int)≠0 by decide),fO _ _ _ (show (10:Int)≠0 by decide),hr,hq,wrapN (n:=m%10+1) (by omega),wrap64 (n:=((m/10:Nat):Int)) (by omega) (by omega),eG,dD,show ((m%10:Nat):Int)+1=((m%10+1:Nat):Int) from rfl,hd,fZ (a:=[48+m%10]) (b:=s) (by simp;omega)];exact ⟨_,rfl,by simp only [go_sem,ya,av]⟩
   obtain ⟨s',f1,f2⟩:=fin;exact ⟨s',k,f1,by omega,m/10,_,f2,by simp;omega,by rw [xc] at hm;omega,by rw [hs];simp [ib]⟩
end
end
section
open Go (IntKind)
def last_pos {l:List Int} (hd:dg l) (hn:nz l) (h:0<l.length):0<l.getD (l.length-1) 0:=by
 rcases snoc l with rfl | ⟨m,a,rfl⟩
 ·grind
 ·have e:(m++[a]).getD ((m++[a]).length-1) 0=a:=by simp_all
  have ha:=kK.1 (gM.1 hd).2;by_cases h0:a=0
  ·subst h0
   have:=K7 m
   have e:=congrArg List.length hn;rw [GY] at e
   grind
  ·omega
section
variable {P:aH} {L:Lib}
def axu (pT:Has P L 292 sQ) {neg:Bool} {w:AV} {l:List Int} (hw:br w l) (hd:dg l) (hn:nz l) (hl:l.length<=20000000000):
  ∀k s,(∃(j:Nat) (t:List Nat),aQ [1,3,4] s=⟨[(1,.ptr 0 0),(3,.str t),(4,ab ((j:Int)-1))],[(0,.cells true true true 2 [.bool neg,w])],1,0⟩/\j=k/\j<l.length/\0<dv (l.drop j)/\t=aw (dv (l.drop j))/\t.length<=9*(l.length-j))->
   ∃ex s',D P L (.loop [1,3,4] HS) s=some (ex,s')/\∃tm,s'=⟨tm,[(0,.cells true true true 2 [.bool neg,w])],1,0⟩/\ex= .exit 0/\aj tm 1= .ptr 0 0/\aj tm 3= .str (aw (dv l))/\(aw (dv l)).length<=180000000000:=by
 intro dq sq;generalize bk:aQ [1,3,4] sq=s0;revert bk s0 sq dq;apply di;rintro k s ⟨j,t,rfl,rfl,hj,rn,ht,Ze⟩
 cases j with
 | zero=>
  right
  rw [yH] at ht;simp only [go_sem,ya,HS,show ¬(0:Int)<=((0:Nat):Int)-1 by omega];exact ⟨_,_,rfl,by simp,_,rfl,rfl,by simp only [go_sem,ya],by rw [<-ht];simp only [go_sem,ya],by rw [<-ht];omega⟩
 | succ i=>
  left
  have hi:i<l.length:=by omega
  obtain ⟨x,hx⟩:∃x,x=l.getD i 0:=⟨_,rfl⟩;have e1:=pO hw hi;have gx:=gN hd i;rw [<-hx] at e1 gx;obtain ⟨m,rfl⟩:∃m:Nat,x=m:=⟨x.toNat,by omega⟩;have e2:=axt pT (n:=m) (by omega);unfold ak at e2;have hlp:=Qy 9 m;have gV:dv (l.drop i)=dv (l.drop (i+1))*10^9+m:=by
   have:l.drop i=(m:Int)::l.drop (i+1):=by
    rw [yX hi,hx];simp [yz,yK hi]
   rw [this];simp only [dv,xZ];omega
  have aA5:aw (dv (l.drop i))=t++ib 9 m:=by
   rw [gV,Lp 9 _ m rn (by omega),ht]
  simp only [go_sem,ya,HS,show ((i+1:Nat):Int)-1=(i:Int) by omega,show (0:Int)<=(i:Int) by omega,bY,yg,cX,e1,e2,fZ (a:=t) (b:=ib 9 m) (by omega)];refine ⟨_,i,rfl,by omega,i,t++ib 9 m,?_,rfl,by omega,by omega,aA5.symm,by simp;omega⟩;rw [wrap64 (by omega) (by omega)];simp only [go_sem,ya,yb,av]<;>rfl
def ajQ (h:Has P L 282 IU) (pT:Has P L 292 sQ) {v:AV} {n:Int} {K:Nat} (hK:K<=18000000000) (hv:jJ v n) (hn:n.natAbs<1000000000^K):ak P L 282 [v] (.str (aU n))/\(aU n).length<=180000000001:=by
 obtain ⟨w,l,rfl,hw,hd,hz,py⟩:=hv;have hl:=xf (iP hd hz (by rw [py];exact hn)) hK
 by_cases h0:l=[]
 ·subst h0;have A1:n=0:=by simp [dv] at py;omega
  subst A1;refine ⟨?_,by decide⟩;unfold ak;rw [aI h];simp only [go_sem,ya,yb,IU,bg,hw.len,hw.pu,hw.one,bY,yg,cX,yO,show ((0:Nat):Int)=(0:Int) from rfl,yu];rfl
 ·have rn:0<l.length:=uV.2 h0;obtain ⟨x,hx⟩:∃x,x=l.getD (l.length-1) 0:=⟨_,rfl⟩;have e1:=pO hw (show l.length-1<l.length by omega);have gx:=gN hd (l.length-1);have gp:=last_pos hd hz rn;rw [<-hx] at e1 gx gp;obtain ⟨m,rfl⟩:∃m:Nat,x=m:=⟨x.toNat,by omega⟩;have e2:=Xc pT (n:=m) (by omega);have gV:dv (l.drop (l.length-1))=m:=by
   rw [yX (show l.length-1<l.length by omega),xj (by omega)]
   have:l[l.length-1]=(m:Int):=by rw [hx];simp [yz,yK (show l.length-1<l.length by omega)]
   simp [dv,this]
  have h9:(aw m).length<=9:=qw (k:=8) (by omega);have fin:∀neg:Bool,bH P L (D P L) 282 [.agg [.bool neg,w]]=some (.str ((if neg=true then [45] else [])++aw (dv l)))/\(aw (dv l)).length<=180000000000:=fun neg=>by
   rw [aI h]
   simp only [go_sem,ya,yb,IU,bg,hw.len,hw.pu,hw.one,bY,yg,cX,show ¬(l.length:Int)=0 by omega,show (l.length:Int)-1=((l.length-1:Nat):Int) by omega,wrapN (n:=l.length-1) (by omega),e1,e2];generalize hq:D P L (.loop [1,3,4] HS) _=q;obtain ⟨ex,s,rfl,tm,rfl,rfl,t1,t3,hlen⟩:=bI hq (axu (P:=P) (L:=L) pT (neg:=neg) hw hd hz (by omega) (l.length-1)) ⟨l.length-1,aw m,by
    rw [show (l.length:Int)-2=((l.length-1:Nat):Int)-1 by omega,wrap64 (by omega) (by omega)]
    simp only [go_sem,ya,yb,av]<;>rfl,rfl,by omega,by rw [gV];omega,by rw [gV],by omega⟩
   refine ⟨?_,hlen⟩
   cases neg with
   | true=>
    simp only [go_sem,ya,av,t1,t3,bY,yg,fZ (a:=[45]) (b:=aw (dv l)) (by simp;omega),xA]
   | false=>
    simp only [go_sem,ya,av,t1,t3,bY,yg];rfl
  obtain ⟨f1,f2⟩:=fin (decide (n<0));rw [py] at f1 f2;simp only [xK] at f1;rw [mY] at f1;refine ⟨f1,?_⟩;rw [<-mY]
  split<;>simp<;>omega
structure Rb (P:aH) (L:Lib):Prop where
 aA6:Has P L 262 IQ
 AF:Has P L 272 IT
 ajR:Has P L 274 M0
 ajS:Has P L 275 M1
 aA7:Has P L 277 Cs
 aA8:Has P L 280 nm
 aA9:Has P L 281 Sy
 ajT:Has P L 282 IU
 ajU:Has P L 288 M5
 Jx:Has P L 289 qX
 sZ:Has P L 290 Eu
 Xd:Has P L 291 IW
 pT:Has P L 292 sQ
 jZ:Has P L 293 Ax
 iW:Has P L 294 Ay
 XI:Has P L 295 IX
 nD:Has P L 296 qY
 ajV:Has P L 298 M6
 oM:Has P L 299 Az
 cR:Has P L 300 kS
 mN:Has P L 302 qZ
structure Ras (P:aH) (L:Lib):Prop extends Rb P L where
 ajW:Has P L 264 IR
 aHm:Has P L 268 aic
 aHn:Has P L 271 aie
 aBa:Has P L 276 oF
 Jy:Has P L 278 M2
 aBb:Has P L 279 Et
 Og:Has P L 297 IY
structure Ra (P:aH) (L:Lib):Prop extends Ras P L where
 ajX:Has P L 267 IS
end
end
section
open Go (IntKind)
section
variable {P:aH} {L:Lib}
def atz {v w:AV} {a vs:List Int} {f:Int} (hv:br v a) (hw:br w vs) {n:Nat} (la:a.length<=9000000000) {A:Nat}:
  ∀k st,(∃us:List Int,aQ [0,8,9,10,11] st=⟨[(0,v),(8,.aC 0 0 1),(9,w),(10,ab n),(11,.aC 1 0 us.length)],[(1,.cells true true false 1 (us.map ab)),(0,.cells false true true 1 [ab f])],2,0⟩/\us.length+k=a.length+1/\dg us/\dv us=A)->
   ∃ex st',D P L (.loop [0,8,9,10,11] HT) st=some (ex,st')/\∃tm us,st'=⟨tm,[(1,.cells true true false 1 (us.map ab)),(0,.cells false true true 1 [ab f])],2,0⟩/\ex= .exit 0/\aj tm 8= .aC 0 0 1/\aj tm 9=w/\aj tm 10=ab n/\aj tm 11= .aC 1 0 (a.length+1)/\us.length=a.length+1/\dg us/\dv us=A:=by
 intro dq sq;generalize bk:aQ [0,8,9,10,11] sq=s0;revert bk s0 sq dq;apply di;rintro k st ⟨us,rfl,hk,gu,aO⟩;have ea:((a.length:Nat):Int)+1=((a.length+1:Nat):Int):=rfl;by_cases hi:us.length<a.length+1
 ·left
  simp only [go_sem,ya,yb,yy,yi,HT,hv.len,ea,wrapN (n:=a.length+1) (by omega),show ((us.length:Nat):Int)<((a.length+1:Nat):Int) by omega]
  rw [gY (ex:=false) (pu:=true) (cs:=us.map ab) (by simp only [go_sem,ya]) (by simp) (by omega) (by omega) (by decide) (by simp only [go_sem])];refine ⟨_,k-1,rfl,by omega,us++[0],?_,by simp;omega,gM.2 ⟨gu,kK.2 (by decide)⟩,by rw [mr];simp [dv,aO]⟩;rw [xy,yL];simp only [go_sem,ya,yb,av,au hv.pu,ax _ hv.pu,au hw.pu,ax _ hw.pu]<;>rfl
 ·right
  have hl:us.length=a.length+1:=by omega
  rw [hl]
  simp only [go_sem,ya,HT,hv.len,ea,wrapN (n:=a.length+1) (by omega),show ¬((a.length+1:Nat):Int)<((a.length+1:Nat):Int) by omega];exact ⟨_,_,rfl,by simp,_,us,rfl,rfl,by simp only [go_sem,ya],by simp only [go_sem,ya],by simp only [go_sem,ya],by simp only [go_sem,ya],hl,gu,aO⟩
end
def agX:∀l:List Int,cm (l.map ab)=true
 | []=>rfl
 | a::r=>by rw [xe,abo,agX r];rfl
def agY:∀l:List Int,aG (l.map ab)=true
 | []=>rfl
 | a::r=>by rw [xe,aG,agY r];rfl
def atA {hp:Hp} {ct:Nat} {e:Bool} {us:List Int} {o:Obj} (h:us.length<=100000000000):
  Cy ((1,.cells true true true 1 [])::(0,o)::hp) ct 1 8 (.aC 1 0 0) (lE ((1,.cells true true true 1 [])::(0,o)::hp) 1 (.ai e us.length (us.map ab)))=some (.aC ct 0 us.length,(ct,.cells true true false 1 (us.map ab))::dU ((1,.cells true true true 1 [])::(0,o)::hp) 1,ct+1):=by
 have h1:lE ((1,.cells true true true 1 [])::(0,o)::hp) 1 (.ai e us.length (us.map ab))=some (us.length,us.map ab):=by
  simp [lE]
 rw [h1,gY (cs:=[]) (pu:=true) (ex:=true) rfl (by simp) (by omega) (by omega) (by decide) (agX us),agY,yg];rfl
def axv {l:List Int} (hd:dg l) (hn:nz l) (h:0<l.length):1000000000^(l.length-1)<=dv l:=Ms hn hd (fun e=>by subst e;simp at h)
def arn {n top f V:Nat} (hf:f=1000000000/(top+1)) (GI:0<top) (ht:top<1000000000) (h1:V<1000000000^(n-1)*(top+1)) (hn:0<n):0<f/\f<1000000000/\V*f<1000000000^n:=by
 have h2:f*(top+1)<=1000000000:=by rw [hf];exact Nat.div_mul_le_self _ _
 have h3:0<f:=by rw [hf];exact Nat.div_pos (by omega) (by omega)
 refine ⟨h3,?_,?_⟩
 ·have:=yW f (show 2<=top+1 by omega)
  omega
 ·have e1:=wK h1 h3;have e2:=yW (1000000000^(n-1)) h2;rw [<-xc,show (n-1).succ=n by omega] at e2
  grind
section
variable {P:aH} {L:Lib}
def axw (h:Has P L 289 qX) (jZ:Has P L 293 Ax) (oM:Has P L 299 Az) (cR:Has P L 300 kS) (pU:Has P L 301 sR) {v w:AV} {a b:List Int} (hv:br v a) (hw:br w b) (ha:dg a) (hb:dg b) (na:nz a) (nb:nz b) (la:a.length<=8000000000) (lb:2<=b.length) (ec:ak P L 296 [v,w] (ab (dF (dv a) (dv b)))) (hc:dv b<=dv a):
  ∃q r lq lr,ak P L 289 [v,w] (.ae [q,r])/\br q lq/\br r lr/\dg lq/\nz lq/\dg lr/\nz lr/\dv lq=dv a/dv b/\dv lr=dv a%dv b:=by
 have dW:¬dF (dv a) (dv b)<0:=by unfold dF;rw [yr (by omega)];split<;>decide
 have azg:=axv hb nb (by omega);have hba:b.length<=a.length:=by
  have:=jh ha
  have h1:1000000000^(b.length-1)<1000000000^a.length:=by omega
  have:=(tC (show 1<1000000000 by decide)).1 h1
  omega
 obtain ⟨n,hn⟩:∃n,n=b.length:=⟨_,rfl⟩;have aBc:=gN hb (n-1);have Ar:=last_pos hb nb (by omega);rw [<-hn] at Ar;obtain ⟨top,nA⟩:∃v:Nat,b.getD (n-1) 0=v:=⟨(b.getD (n-1) 0).toNat,by omega⟩;have ajY:=pO hw (i:=n-1) (by omega);rw [nA] at aBc Ar ajY;have hbt:=n7 (l:=b) (n-1);rw [show n-1+1=n by omega,yN (by omega),nA,xZ] at hbt;have azh:=jh (BG hb (n-1));rw [yI,xE (by omega)] at azh;obtain ⟨f,hf⟩:∃f,f=1000000000/(top+1):=⟨_,rfl⟩;obtain ⟨Db,hfB,hfV⟩:=arn (n:=n) (V:=dv b) hf (by omega) (by omega) (by rw [xt,yi];omega) (by omega);have hIf:br (.ai true 1 [ab f]) [(f:Int)]:=mv true [(f:Int)];have gf:dg [(f:Int)]:=kK.2 (by omega);have vf:dv [(f:Int)]=f:=by simp [dv]
 obtain ⟨v',vs,e1,ek,hsv,C1,Kl,rR⟩:=XH jZ cR hw hIf hb gf (by omega) (by simp);obtain ⟨u',Bm,e2,iJ,CU,FD,nus,Kv⟩:=XH jZ cR hv hIf ha gf (by omega) (by simp);rw [vf] at rR Kv;have p0:0<dv b:=by have:=Nat.pow_pos (n:=b.length-1) (show 0<1000000000 by decide);omega
 have zI:vs.length=n:=by
  have h1:vs.length<=n:=iP C1 Kl (by rw [rR];exact hfV)
  have h2:dv b<=dv vs:=by rw [rR];exact Nat.le_mul_of_pos_right _ Db
  have h3:=jh C1;have h4:1000000000^(n-1)<1000000000^vs.length:=by rw [hn];omega
  have:=(tC (show 1<1000000000 by decide)).1 h4
  omega
 have O2:Bm.length<=a.length+1:=by
  refine iP FD nus ?_;rw [Kv,xc];exact Nat.mul_lt_mul'' (jh ha) hfB
 have ajZ:0<Bm.length:=by
  rcases xn Bm.length with e | e
  ·have h1:0<dv a*f:=ybt (by omega) Db;rw [yC e] at Kv;simp only [dv] at Kv;omega
  ·exact e
 have eJ:0<vs.getD (n-1) 0:=by
  have:=last_pos C1 Kl (by omega)
  rwa [zI] at this
 obtain ⟨m,hm⟩:∃m,m=a.length+1-n:=⟨_,rfl⟩;have cL:∀ct:Nat,oI ct 1 8 [.int .i64 0] (some m) (some m)=some (.aC ct 0 m,.cells true true true 1 ((yq m (0:Int)).map ab)):=fun ct=>by
  rw [Ag (sz:=1) (by omega) (by omega) (by rfl) (by rfl),PU];rfl
 obtain ⟨e,rfl⟩:∃e,u'= .ai e Bm.length (Bm.map ab):=by
  rcases iJ with ⟨rfl,h0⟩ | ⟨e,rfl⟩
  ·rw [List.map_eq_nil_iff] at h0;rw [h0] at ajZ;simp at ajZ
  ·exact ⟨e,by rw [yk]⟩
 have R7:∀us:List Int,us.length=a.length+1->dv us=dv a*f->dv (us.drop m)<dv vs:=fun us hl hd=>by
  have e1:=QC us m (by omega);have e2:=jh ha;have e3:=wK e2 Db;have e4:1000000000^a.length=1000000000^m*1000000000^(n-1):=by rw [<-Nat.pow_add];congr 1;omega
  rw [<-hd,e4,xk] at e3;have e5:1000000000^m*dv (us.drop m)<1000000000^m*(1000000000^(n-1)*f):=by omega
  refine yV (Nat.lt_of_mul_lt_mul_left e5) ?_;rw [rR,hn];exact yT _ azg
 have iB:∃us qs,(us.length=a.length+1/\qs.length=m/\dg us/\dg qs/\dv us+dv qs*dv vs=dv a*f/\dv us<dv vs)/\
   ∃q1 r1 lr,br q1 (dK qs)/\br r1 lr/\dg lr/\nz lr/\dv lr=dv (us.take n)/f/\ak P L 289 [v,w] (.ae [q1,r1]):=by
  unfold ak at ec e1 e2;unfold ak;rw [aI h];have Jq:IntKind.wrap .i64 ((1000000000:Int).tdiv ((top+1:Nat):Int))=(f:Int):=by
   rw [xV (by decide),show (1000000000:Int)/((top+1:Nat):Int)=((1000000000/(top+1):Nat):Int) from rfl,<-hf,wrap64 (by omega) (by omega)]
  simp only [go_sem,ya,yb,yM,yy,yi,qX,hv.ao,hw.len,hw.ao,ec,dW,show ¬(n:Int)=1 by omega,<-hn,show (n:Int)-1=((n-1:Nat):Int) by omega,wrapN (n:=n-1) (by omega),ajY,show ((top:Nat):Int)+1=((top+1:Nat):Int) from rfl,wrapN (n:=top+1) (by omega),fO _ _ _ (show ((top+1:Nat):Int)≠0 by omega),Jq,e1,hsv,ek.len,zI,e2,CU,atA (us:=Bm) (e:=e) (by omega)];generalize bk:D P L (.loop [0,8,9,10,11] HT) _=q0;obtain ⟨ex,st,rfl,tm,us,rfl,rfl,t8,t9,t10,t11,lu,gu,vu⟩:=bI bk (atz (P:=P) (L:=L) (f:=(f:Int)) (n:=n) (A:=dv a*f) hv ek (by omega) (a.length+1-Bm.length)) ⟨Bm,by
   simp only [go_sem,ya,yb,av,au hv.pu,ax _ hv.pu,au ek.pu,ax _ ek.pu]<;>rfl,by omega,FD,Kv⟩
  have em:((a.length+1:Nat):Int)-(n:Int)=(m:Int):=by omega
  have em1:(m:Int)-1=((m-1:Nat):Int):=by omega
  simp only [go_sem,ya,yb,av,au ek.pu,ax _ ek.pu,t8,t9,t10,t11,em,wrapN (n:=m) (by omega),cL,em1,wrapN (n:=m-1) (by omega)];generalize eZ:D P L (.loop [8,9,10,11,12,13] HV) _=q1;obtain ⟨ex,st,rfl,ru,Bn,qs,rfl,rfl,t8,t10,t11,t12,lu1,Kp,gu1,gq1,aO,aW⟩:=bI eZ (aty (P:=P) (L:=L) pU (f:=(f:Int)) ek C1 zI (by omega) (show n<a.length+1 by omega) (by omega) (by omega) eJ (U0:=dv a*f) m) ⟨m,us,yq m 0,by
   rw [show ((m-1:Nat):Int)=(m:Int)-1 by omega]
   simp only [go_sem,ya,yb,av,au ek.pu,ax _ ek.pu]<;>rfl,rfl,yo _,lu,by simp,gu,acb m,fun i _=>aaR m i,by rw [aca,Nat.zero_mul,yZ,vu],R7 us lu vu⟩
  have kV:∀(hp:Hp) tm (y:X),aB hp 1=some (.cells true true false 1 (Bn.map ab))->cW tm (a.length+1) (some y)=some n->eV hp (.sl 1) (.aC 1 0 (a.length+1)) tm none (some y)=some (.aC 1 0 n):=fun hp tm y h1 h2=>acn h1 h2 (by omega) (by omega)
  obtain ⟨e',Kn⟩:∃e',∀hp:Hp,jY 0 n (some (false,1,Bn.map ab,hp))=some (.ai e' n ((Bn.take n).map ab),hp):=by
   refine ⟨false&&Nat.blt 0 1&&Nat.beq n (Bn.map ab).length,fun hp=>?_⟩;simp only [jY,yg,yi,slice,yH,<-List.map_take];rw [Nat.ble_eq_true_of_le (by simp;omega)];rfl
  have ltk:(Bn.take n).length=n:=by rw [yI];omega
  have iI:=mv e' (Bn.take n);rw [ltk] at iI;obtain ⟨r0,f1,eN,aBd⟩:=AG cR iI (by omega);obtain ⟨r1,lr,f2,cV,aHo,azi,dr,nr,vr⟩:=ajM oM cR eN (zT (BG gu1 n)) (by have:=K7 (Bn.take n);omega) Db hfB;have Km:=mv true qs;rw [Kp] at Km;obtain ⟨q1,f3,eZ,aBe⟩:=AG cR Km (by omega);rw [r7] at vr;unfold ak at f1 f2 f3;refine ⟨Bn,qs,⟨lu1,Kp,gu1,gq1,aO,aW⟩,q1,r1,lr,eZ,cV,dr,nr,vr,?_⟩;have nM:jv 1 0 (AV.aC 0 0 1)=some (.ptr 0 0):=cp 0 0 (show 0<1 by omega)
  simp only [go_sem,ya,yb,av,t8,t10,t11,t12,kV,dD,Kn,f1,aBd,eN.ao,nM,f2,azi,fun hp=>nW (hp:=hp) (k:=m) (sz:=1) (cs:=qs.map ab) true (by simp [Kp]) (by decide),f3,aBe];rcases eZ with ⟨rfl,_⟩ | ⟨_,rfl⟩<;>rcases cV with ⟨rfl,_⟩ | ⟨_,rfl⟩<;>rfl
 obtain ⟨us,qs,⟨lu,lq,gu,gq,aO,aW⟩,q1,r1,lr,eZ,cV,dr,nr,vr,e⟩:=iB;rw [rR] at aO aW;have Jq:dv qs=dv a/dv b:=by
  rw [<-Nat.mul_div_mul_right _ _ Db,<-aO,yaH,xB,Nat.mul_add_div (ybt p0 Db),wB aW,yZ]
 have O4:dv us=(dv a%dv b)*f:=by
  rw [<-Nat.mul_mod_mul_right,<-aO,yaH,xB (dv qs),Nat.mul_add_mod,yU aW]
 have ju:=QC us n (by omega);have fX:dv (us.drop n)=0:=by
  rcases xn (dv (us.drop n)) with h0 | h0
  ·exact h0
  ·have:=yW (1000000000^n) h0
   omega
 rw [fX,xD,yZ] at ju;rw [<-ju,O4,Nat.mul_div_cancel _ Db] at vr;exact ⟨q1,r1,_,lr,e,eZ,cV,zT gq,DG _,dr,nr,by rw [r7,Jq],vr⟩
def ahE (h:Has P L 289 qX) (jZ:Has P L 293 Ax) (nD:Has P L 296 qY) (oM:Has P L 299 Az) (cR:Has P L 300 kS) (pU:Has P L 301 sR) {v w:AV} {a b:List Int} (hv:br v a) (hw:br w b) (ha:dg a) (hb:dg b) (na:nz a) (nb:nz b) (la:a.length<=8000000000) (lb:b.length<=8000000000) (h0:0<dv b):
  ∃q r lq lr,ak P L 289 [v,w] (.ae [q,r])/\br q lq/\br r lr/\dg lq/\nz lq/\dg lr/\nz lr/\dv lq=dv a/dv b/\dv lr=dv a%dv b:=by
 by_cases hl:b.length<=1
 ·exact aAZ h nD oM cR hv hw ha hb na nb (by omega) hl h0
 have ec:=XG nD hv hw ha hb na nb (by omega) (by omega);by_cases hc:dv a<dv b
 ·unfold ak at ec;have dW:dF (dv a) (dv b)= -1:=by unfold dF;rw [yE hc]
  rw [dW] at ec;refine ⟨.aa,v,[],a,?_,qu,hv,rfl,rfl,ha,na,?_,?_⟩
  ·unfold ak;rw [aI h];simp only [go_sem,ya,qX,hv.ao,hw.ao,ec,show (-1:Int)<0 by decide];rcases hv with ⟨rfl,_⟩ | ⟨e,rfl⟩<;>rfl
  ·rw [wB hc];rfl
  ·rw [yU hc]
 ·exact axw h jZ oM cR pU hv hw ha hb na nb la (by omega) ec (by omega)
def ahF (h:Has P L 275 M1) (Jx:Has P L 289 qX) (jZ:Has P L 293 Ax) (nD:Has P L 296 qY) (oM:Has P L 299 Az) (cR:Has P L 300 kS) (pU:Has P L 301 sR) {v w:AV} {a b:List Int} (hv:br v a) (hw:br w b) (ha:dg a) (hb:dg b) (na:nz a) (nb:nz b) (la:a.length<=8000000000) (lb:b.length<=8000000000):
  ∃r l,ak P L 275 [v,w] r/\br r l/\dg l/\nz l/\dv l=wz (dv a) (dv b):=by
 have key:=fN (P:=P) (L:=L) (live:=[0,1]) (a:=HR)
  (I:=fun k st=>∃x y lx ly,st=⟨[(0,x),(1,y)],[],0,0⟩/\br x lx/\br y ly/\dg lx/\nz lx/\dg ly/\nz ly/\lx.length<=8000000000/\ly.length<=8000000000/\dv ly=k/\wz (dv lx) (dv ly)=wz (dv a) (dv b))
  (Q:=fun ex st=>∃tm ct,st=⟨tm,[],ct,0⟩/\ex= .exit 0/\∃x lx,aj tm 0=x/\br x lx/\dg lx/\nz lx/\dv lx=wz (dv a) (dv b)) ?_
 ·unfold ak;rw [aI h];simp only [go_sem,M1];generalize hq:D P L (.loop [0,1] HR) _=q;obtain ⟨ex,st,rfl,tm,ct,rfl,rfl,x,lx,h2,hx,dx,nx,vx⟩:=bI hq (key (dv b)) ⟨v,w,a,b,by simp only [go_sem,ya,av,au hv.pu,ax _ hv.pu,au hw.pu,ax _ hw.pu]<;>rfl,hv,hw,ha,na,hb,nb,la,lb,rfl,rfl⟩
  refine ⟨x,lx,?_,hx,dx,nx,vx⟩;simp only [go_sem,av,h2,hx.fT,au hx.pu,ax _ hx.pu]
 ·rintro k st ⟨x,y,lx,ly,rfl,hx,hy,dx,nx,dy,ny,llx,lly,rfl,hg⟩;by_cases h0:ly=[]
  ·right
   subst h0;simp only [go_sem,ya,HR,hy.len,yO,show ¬(0:Int)<((0:Nat):Int) by omega];refine ⟨_,_,rfl,by simp,_,_,rfl,rfl,x,lx,by simp only [go_sem,ya],hx,dx,nx,?_⟩;rw [<-hg];simp [dv]
  ·left
   have hp:0<dv ly:=by
    rcases xn (dv ly) with e | e
    ·exact absurd (afw ny dy e) h0
    ·exact e
   have hl:0<ly.length:=uV.2 h0;obtain ⟨q,r,lq,lr,e1,hq,hr,dq,nq,dr,nr,vq,vr⟩:=ahE Jx jZ nD oM cR pU hx hy dx dy nx ny llx lly hp;have aW:dv lr<dv ly:=by rw [vr];exact xp _ hp
   have hB:=jh dy;simp only [go_sem,ya,HR,hx.ao,hy.len,hy.ao,show (0:Int)<ly.length by omega,e1,hq.bT,hr.bT];refine ⟨_,dv lr,rfl,aW,y,r,ly,lr,?_,hy,hr,dy,ny,dr,nr,by omega,xf (iP dr nr (Nat.lt_trans aW hB)) lly,rfl,?_⟩
   ·simp only [go_sem,ya,av,au hy.pu,ax _ hy.pu,au hr.pu,ax _ hr.pu]<;>rfl
   ·rw [<-hg,vr,uI (dv ly),<-Nat.gcd_rec,uI]
end
end
section
open Go (IntKind)
section
variable {P:aH} {L:Lib}
def axx (sZ:Has P L 290 Eu) {neg:Bool} {N:Nat} (hN:(aw N).length<=180000000000):
  ∀k s,(∃(i m:Nat) (out:List Int),m=k/\out.length=i/\dg out/\dv out+1000000000^i*m=N/\(aw m).length+9*i<=180000000000/\
    ((i=0/\aQ [0,2,3,4] s=⟨[(0,.str (aw m)),(2,.ptr 0 0),(3,.bool neg),(4,.aa)],[(0,.cells true true true 2 [.bool false,.aa])],1,0⟩)\/
    (0<i/\aQ [0,2,3,4] s=⟨[(0,.str (aw m)),(2,.ptr 0 0),(3,.bool neg),(4,.aC 1 0 i)],[(1,.cells true true false 1 (out.map ab)),(0,.cells true true true 2 [.bool false,.aa])],2,0⟩)))->
   ∃ex s',D P L (.loop [0,2,3,4] sB) s=some (ex,s')/\∃tm i m out,ex= .exit 0/\m<1000000000/\out.length=i/\dg out/\dv out+1000000000^i*m=N/\i<20000000000/\aj tm 0= .str (aw m)/\aj tm 2= .ptr 0 0/\aj tm 3= .bool neg/\
    ((i=0/\aj tm 4= .aa/\s'=⟨tm,[(0,.cells true true true 2 [.bool false,.aa])],1,0⟩)\/(0<i/\aj tm 4= .aC 1 0 i/\s'=⟨tm,[(1,.cells true true false 1 (out.map ab)),(0,.cells true true true 2 [.bool false,.aa])],2,0⟩)):=by
 intro dq sq;generalize bk:aQ [0,2,3,4] sq=s0;revert bk s0 sq dq;apply di;rintro k s ⟨i,m,out,rfl,hlen,hd,aO,hl,hs⟩;by_cases hm:1000000000<=m
 ·left
  obtain ⟨q,hq⟩:∃q,q=m/1000000000:=⟨_,rfl⟩;obtain ⟨r,hr⟩:∃r,r=m%1000000000:=⟨_,rfl⟩;have kV:=aq0 hm;rw [<-hq,<-hr] at kV;have fe:=Qy 9 r;have hqp:=qB q;have hlm:(aw m).length=(aw q).length+9:=by rw [kV,yL,fe]
  have c1:ic (aw m) (some (aw q).length) (some (aw m).length)=some (.str (ib 9 r)):=by
   rw [lF (by omega) (yo _),xx,kV,uN]
  have c2:ic (aw m) (some 0) (some (aw q).length)=some (.str (aw q)):=by
   rw [lF (by omega) (by omega),yH,kV,uM]
  have e1:=Jl sZ (s:=ib 9 r) (v:=r) (by omega) (by rw [acj 9 r 0 (by omega)];simp)
  unfold ak at e1;have E1:dg (out++[(r:Int)]):=gM.2 ⟨hd,kK.2 (by omega)⟩;have ahG:dv (out++[(r:Int)])+1000000000^(i+1)*q=N:=by
   rw [mr,hlen,<-aO,xc];have e:=Nat.mod_add_div m 1000000000;rw [<-hr,<-hq] at e;rw [<-e];simp only [dv,xZ,xD,yZ,xt,xk];omega
  have MI:((aw m).length:Int)-9=((aw q).length:Int):=by omega
  rcases hs with ⟨h0,rfl⟩ | ⟨h0,rfl⟩
  ·subst h0;have mc:out=[]:=yC hlen;subst mc
   simp only [go_sem,ya,yb,xM,yM,yy,yi,sB,show (9:Int)<((aw m).length:Int) by omega,MI,wrapN (n:=(aw q).length) (by omega),eG,eU,dD,c1,c2,e1,im];refine ⟨_,q,rfl,by omega,1,q,[]++[(r:Int)],rfl,rfl,E1,ahG,by omega,.inr ⟨by omega,?_⟩⟩;rfl
  ·simp only [go_sem,ya,yb,yy,yi,sB,show (9:Int)<((aw m).length:Int) by omega,MI,wrapN (n:=(aw q).length) (by omega),eG,eU,dD,c1,e1]
   rw [gY (ex:=false) (pu:=true) (cs:=out.map ab) (by simp only [go_sem,ya]) (by rw [yk,hlen,yi]) (by omega) (by omega) (by decide) (by simp only [go_sem])]
   simp only [go_sem,ya,yb,eG,eU,dD,MI,wrapN (n:=(aw q).length) (by omega),c2];refine ⟨_,q,rfl,by omega,i+1,q,out++[(r:Int)],rfl,by simp [hlen],E1,ahG,by omega,.inr ⟨by omega,?_⟩⟩;rw [xy];simp only [go_sem,ya,yb,av]<;>rfl
 ·right
  have h9:(aw m).length<=9:=qw (k:=8) (by omega);have hp0:=qB m;rcases hs with ⟨h0,rfl⟩ | ⟨h0,rfl⟩
  ·simp only [go_sem,sB,show ¬(9:Int)<((aw m).length:Int) by omega];exact ⟨_,_,rfl,by simp,_,i,m,out,rfl,by omega,hlen,hd,aO,by omega,by simp only [go_sem,ya],by simp only [go_sem,ya],by simp only [go_sem,ya],.inl ⟨h0,by simp only [go_sem,ya],rfl⟩⟩
  ·simp only [go_sem,sB,show ¬(9:Int)<((aw m).length:Int) by omega];exact ⟨_,_,rfl,by simp,_,i,m,out,rfl,by omega,hlen,hd,aO,by omega,by simp only [go_sem,ya],by simp only [go_sem,ya],by simp only [go_sem,ya],.inr ⟨h0,by simp only [go_sem,ya],rfl⟩⟩
end
end
section
open Go (IntKind)
section
variable {P:aH} {L:Lib}
def aj0 (h:Rb P L) {n:Int} (hn:(aw n.natAbs).length<=180000000000):∃r,ak P L 288 [.str (aU n)] r/\jJ r n:=by
 obtain ⟨u,hu⟩:∃u,u=aw n.natAbs:=⟨_,rfl⟩;obtain ⟨b,t,hb,mi,hb2⟩:=Du n.natAbs;have hs:aU n=(if n<0 then [45] else [])++u:=by rw [hu,mY]
 have A9:0<u.length:=by rw [hu];exact qB _
 have pW:u[0]=b:=by
  have:u=b::t:=by rw [hu,hb]
  simp [this]
 have key:∀(s:St),aQ [0,2,3,4] s=⟨[(0,.str u),(2,.ptr 0 0),(3,.bool (decide (n<0))),(4,.aa)],[(0,.cells true true true 2 [.bool false,.aa])],1,0⟩->
   ∃ex s',D P L (.loop [0,2,3,4] sB) s=some (ex,s')/\∃tm i m out,ex= .exit 0/\m<1000000000/\out.length=i/\dg out/\dv out+1000000000^i*m=n.natAbs/\i<20000000000/\aj tm 0= .str (aw m)/\aj tm 2= .ptr 0 0/\aj tm 3= .bool (decide (n<0))/\
    ((i=0/\aj tm 4= .aa/\s'=⟨tm,[(0,.cells true true true 2 [.bool false,.aa])],1,0⟩)\/(0<i/\aj tm 4= .aC 1 0 i/\s'=⟨tm,[(1,.cells true true false 1 (out.map ab)),(0,.cells true true true 2 [.bool false,.aa])],2,0⟩)):=fun s hc=>
  axx (P:=P) (L:=L) h.sZ (neg:=decide (n<0)) hn n.natAbs s ⟨0,n.natAbs,[],rfl,rfl,rfl,by simp [dv],by omega,.inl ⟨rfl,by rw [hc,hu]⟩⟩
 have fin:∀(i m:Nat) (out:List Int),m<1000000000->out.length=i->dg out->dv out+1000000000^i*m=n.natAbs->i<20000000000->∃w l,bH P L (D P L) 294 [.bool (decide (n<0)),.ai false (i+1) ((out++[(m:Int)]).map ab)]=some (.agg [.bool (decide (n<0)),w])/\br w l/\dg l/\nz l/\dv l=n.natAbs:=fun i m out h1 h2 h3 h4 h5=>by
  have hv:=mv false (out++[(m:Int)]);have hd:dg (out++[(m:Int)]):=gM.2 ⟨h3,kK.2 (by omega)⟩;have aO:dv (out++[(m:Int)])=n.natAbs:=by rw [mr,h2];simp [dv];exact h4
  obtain ⟨r,e,hr⟩:=za h.iW h.cR (decide (n<0)) hv hd (by simp;omega);have FF:cA (decide (n<0)) (dv (out++[(m:Int)]))=n:=by
   rw [aO];unfold cA;by_cases h0:n<0
   ·simp only [h0,yu,xA];omega
   ·simp only [h0,yv,yJ,xd];omega
  rw [FF] at hr;obtain ⟨w,l,rfl,hw,gH,jm,dt⟩:=hr;simp only [yL,List.length_singleton,h2] at e;exact ⟨w,l,e,hw,gH,jm,dt⟩
 unfold ak;rw [hs];by_cases h0:n<0
 ·rw [yE h0,aI h.ajU];have kB:ic (45::u) (some 1) (some (u.length+1))=some (.str u):=by rw [lF (s:=45::u) (l:=1) (h:=u.length+1) (by omega) (by simp)];simp
  simp only [h0,yu] at key fin ⊢;simp only [go_sem,ya,yb,M5,bg,show (0:Int)<((u.length+1:Nat):Int) by omega,xh,wh,Cz,yu,eG,eU,dD,kB];generalize hq:D P L (.loop [0,2,3,4] sB) _=q;obtain ⟨ex,s,rfl,tm,i,m,out,rfl,hm,hlen,hd,aO,hi,t0,t2,t3,Ce⟩:=bI hq key (by simp only [go_sem,ya,yb,av]<;>rfl)
  have e1:=Jl h.sZ (s:=aw m) (v:=m) (by have:=qw (k:=8) (n:=m) (by omega);omega) (qj m);have cS:i<20000000000:=hi;obtain ⟨w,l,e2,hw,gH,jm,dt⟩:=fin i m out hm hlen hd aO cS;refine ⟨_,?_,w,l,rfl,hw,gH,jm,dt⟩;unfold ak at e1;rcases Ce with ⟨kG,t4,rfl⟩ | ⟨kG,t4,rfl⟩
  ·subst kG;have mc:out=[]:=yC hlen;subst mc;have iI:∀hp:Hp,jY 0 1 (some (false,1,[AV.int .i64 (m:Int)],hp))=some (.ai false 1 [AV.int .i64 (m:Int)],hp):=fun hp=>rfl
   simp only [wh,xe,vE,yg] at e2;simp only [go_sem,ya,yb,xM,yM,yy,yi,av,t0,t2,t3,t4,e1,im,iI,e2,bW,hw.pu,hw.one,gj];rcases hw with ⟨rfl,_⟩ | ⟨e,rfl⟩<;>simp only [h0,yu]<;>rfl
  ·simp only [go_sem,ya,yb,yy,yi,av,t0,t2,t3,t4,e1]
   rw [gY (ex:=false) (pu:=true) (cs:=out.map ab) (by simp only [go_sem,ya]) (by rw [yk,hlen,yi]) (by omega) (by omega) (by decide) (by simp only [go_sem])];have iI:∀hp:Hp,jY 0 (i+1) (some (false,1,out.map ab++[AV.int .i64 (m:Int)],hp))=some (.ai false (i+1) (out.map ab++[AV.int .i64 (m:Int)]),hp):=fun hp=>nW false (by simp [hlen]) (by decide)
   simp only [xy,xe,vE] at e2;simp only [go_sem,ya,yb,iI,e2,bW,hw.pu,hw.one,gj,ue];rcases hw with ⟨rfl,_⟩ | ⟨e,rfl⟩<;>simp only [h0,yu]<;>rfl
 ·rw [yr h0,aI h.ajU,wh];simp only [h0,yv] at key fin ⊢;simp only [go_sem,ya,yb,M5,bg,show (0:Int)<(u.length:Int) by omega,pH A9,pW,show ¬((b:Nat):Int)=45 by omega];generalize hq:D P L (.loop [0,2,3,4] sB) _=q;obtain ⟨ex,s,rfl,tm,i,m,out,rfl,hm,hlen,hd,aO,hi,t0,t2,t3,Ce⟩:=bI hq key (by simp only [go_sem,ya,yb,av]<;>rfl)
  have e1:=Jl h.sZ (s:=aw m) (v:=m) (by have:=qw (k:=8) (n:=m) (by omega);omega) (qj m);have cS:i<20000000000:=hi;obtain ⟨w,l,e2,hw,gH,jm,dt⟩:=fin i m out hm hlen hd aO cS;refine ⟨_,?_,w,l,rfl,hw,gH,jm,dt⟩;rcases Ce with ⟨kG,t4,rfl⟩ | ⟨kG,t4,rfl⟩
  ·subst kG;have mc:out=[]:=yC hlen;subst mc;have iI:∀hp:Hp,jY 0 1 (some (false,1,[AV.int .i64 (m:Int)],hp))=some (.ai false 1 [AV.int .i64 (m:Int)],hp):=fun hp=>rfl
   simp only [wh,xe,vE,yg] at e2;simp only [go_sem,ya,yb,xM,yM,yy,yi,av,t0,t2,t3,t4,e1,im,iI,e2,bW,hw.pu,hw.one,gj];rcases hw with ⟨rfl,_⟩ | ⟨e,rfl⟩<;>simp only [h0,yv]<;>rfl
  ·simp only [go_sem,ya,yb,yy,yi,av,t0,t2,t3,t4,e1]
   rw [gY (ex:=false) (pu:=true) (cs:=out.map ab) (by simp only [go_sem,ya]) (by rw [yk,hlen,yi]) (by omega) (by omega) (by decide) (by simp only [go_sem])];have iI:∀hp:Hp,jY 0 (i+1) (some (false,1,out.map ab++[AV.int .i64 (m:Int)],hp))=some (.ai false (i+1) (out.map ab++[AV.int .i64 (m:Int)]),hp):=fun hp=>nW false (by simp [hlen]) (by decide)
   simp only [xy,xe,vE] at e2;simp only [go_sem,ya,yb,iI,e2,bW,hw.pu,hw.one,gj,ue];rcases hw with ⟨rfl,_⟩ | ⟨e,rfl⟩<;>simp only [h0,yv]<;>rfl
end
end
section
open Go (IntKind)
def KM (n:Int) (r:List Nat):bU (aU n++r)=(aU n).length+bU r:=by
 rw [<-mY]
 split
 ·simp only [xh,wh,bU,yG];rw [yr (by decide),GQ r (zR _)];omega
 ·rw [wh];exact GQ r (zR _)
def QD:∀{a b:List Nat},cU a b=true->a=b
 | [],[],_=>rfl
 | [],_::_,h=>by simp [cU] at h
 | _::_,[],h=>by simp [cU] at h
 | x::a,y::b,h=>by
  simp only [cU,Bool.and_eq_true] at h;rw [Nat.eq_of_beq_eq_true h.1,QD h.2]
def ahH {n:Int} {d:Nat} (h:n≠0):cU (TT n d) [48]=false:=by
 cases hb:cU (TT n d) [48] with
 | false=>rfl
 | true=>
  have e:=QD hb;unfold TT at e;by_cases h0:n<0
  ·rw [lC h0] at e;simp at e
  ·obtain ⟨m,rfl⟩:∃m:Nat,n=m:=⟨n.toNat,by omega⟩;rw [jL] at e;obtain ⟨b,r,cC,_,_⟩:=Du m;rw [cC] at e;simp only [xh,List.cons.injEq,List.append_eq_nil_iff] at e;have hv:=qj m;rw [cC,e.1,e.2.1] at hv
   have:(some 0:Option Nat)=some m:=hv
   grind
section
variable {P:aH} {L:Lib}
def axy (h:Rb P L):∃r,ak P L 281 [ab 1] r/\jJ r 1:=by
 obtain ⟨r,e,hr⟩:=za h.iW h.cR false (mv false [(1:Int)]) (by decide) (by decide);obtain ⟨w,l,rfl,hw,hd,hz,hv⟩:=hr;refine ⟨_,?_,w,l,rfl,hw,hd,hz,hv⟩;simp only [xe,vE,yG,yO,yg] at e;have iI:∀hp:Hp,jY 0 1 (some (false,1,[AV.int .i64 1],hp))=some (.ai false 1 [AV.int .i64 1],hp):=fun hp=>rfl
 unfold ak at e ⊢;rw [aI h.aA9];simp only [go_sem,ya,yb,xM,yM,yy,yi,Sy,bg,Int.reduceLT,yv,L9,av,af0,Int.reduceEq,Bool.not_false,Bool.not_true,yu,iq _ _ _ (show (1000000000:Int)≠0 by decide),fO _ _ _ (show (1000000000:Int)≠0 by decide),show Int.tmod 1 1000000000=1 from rfl,show Int.tdiv 1 1000000000=0 from rfl,show IntKind.wrap .i64 0=0 from rfl,im,iI,e,hw.pu,hw.one,bW,gj];rcases hw with ⟨rfl,_⟩ | ⟨e,rfl⟩<;>rfl
def aj1 (h:Rb P L) {n:Int} {d:Nat} (hn:(aw n.natAbs).length<=144000000000) (hd:(aw d).length<=144000000000):
  ∃x y,ak P L 274 [.str (TT n d)] (.ae [x,y])/\jJ x n/\jJ y d:=by
 obtain ⟨x,e1,hx⟩:=aj0 h (n:=n) (by omega);have hli:(aU n).length<=(aw n.natAbs).length+1:=by rw [<-mY];split<;>simp
 by_cases h1:d=1
 ·subst h1;obtain ⟨y,e2,hy⟩:=axy h;have hT:TT n 1=aU n:=by unfold TT;simp
  have hs:=KM n [];rw [wA] at hs;have e3:=EU h.AF (s:=aU n) (by omega);rw [hs] at e3;refine ⟨x,y,?_,hx,hy⟩;obtain ⟨xw,xl,rfl,eQ,_,_,_⟩:=hx;obtain ⟨yw,yl,rfl,eR,_,_,_⟩:=hy;rw [hT];unfold ak at e1 e2 e3 ⊢;rw [aI h.ajR];simp only [go_sem,ya,yb,M0,bg,e3,bU,yZ,yu,e1,e2,bW,eQ.pu,eQ.one,eR.pu,eR.one,gj];rcases eQ with ⟨rfl,_⟩ | ⟨e,rfl⟩<;>rcases eR with ⟨rfl,_⟩ | ⟨e',rfl⟩<;>rfl
 ·obtain ⟨y,e2,hy⟩:=aj0 h (n:=(d:Int)) (by simp;omega);rw [jL] at e2;obtain ⟨s,Ko⟩:∃s,s=TT n d:=⟨_,rfl⟩;have hT:s=aU n++47::aw d:=by rw [Ko];unfold TT;rw [yr h1]
  have hs:bU s=(aU n).length:=by rw [hT,KM];rfl
  have hlen:s.length=(aU n).length+(aw d).length+1:=by rw [hT];simp;omega
  have e3:=EU h.AF (s:=s) (by omega);rw [hs] at e3;have c1:ic s (some 0) (some (aU n).length)=some (.str (aU n)):=by
   rw [lF (by omega) (by omega),yH,hT,uM]
  have c2:ic s (some ((aU n).length+1)) (some s.length)=some (.str (aw d)):=by
   rw [lF (by omega) (yo _),xx,hT,show aU n++47::aw d=(aU n++[47])++aw d by simp,show (aU n).length+1=(aU n++[47]).length by simp,uN]
  refine ⟨x,y,?_,hx,hy⟩;obtain ⟨xw,xl,rfl,eQ,_,_,_⟩:=hx;obtain ⟨yw,yl,rfl,eR,_,_,_⟩:=hy;rw [<-Ko];unfold ak at e1 e2 e3 ⊢;rw [aI h.ajR]
  simp only [go_sem,ya,yb,M0,bg,e3,show ¬((aU n).length:Int)=(s.length:Int) by omega,eG,eU,dD,c1,wrapN (n:=(aU n).length+1) (by omega),show ((aU n).length:Int)+1=(((aU n).length+1:Nat):Int) from rfl,c2,e1,e2,bW,eQ.pu,eQ.one,eR.pu,eR.one,gj];rcases eQ with ⟨rfl,_⟩ | ⟨e,rfl⟩<;>rcases eR with ⟨rfl,_⟩ | ⟨e',rfl⟩<;>rfl
end
end
section
open Go (IntKind)
def axz {n:Int} {d:Nat} (h:n<0):TT n d=45::TT (-n) d:=by
 have e:aU (-n)=aw n.natAbs:=by
  rw [<-mY,yr (show ¬-n<0 by omega),wh,show (-n).natAbs=n.natAbs by omega]
 unfold TT;rw [lC h,e];rfl
def atB {n:Int} {d:Nat} (h:¬n<0):∃b u,TT n d=b::u/\48<=b:=by
 obtain ⟨b,r,hb,h1,_⟩:=Du n.natAbs;refine ⟨b,r++(if d=1 then [] else 47::aw d),?_,h1⟩;unfold TT;rw [<-mY,yr h,wh,hb];rfl
def Ic (a b:AV) (r:List AV):gP 2 true (a::b::r)=some (.agg [a,b]):=rfl
def atD (k:Nat):2^k<=1000000000^k:=Nat.pow_le_pow_left (by decide) k
def Bd.r {k:Nat} {z:Int} (h:Bd k z):z.natAbs<1000000000^k:=yV h (atD k)
def ahI (r:Rat):RT r=TT r.num r.den:=rfl
def afJ {n d:Int} (hd:0<d):RT (wu n d)=oJ n d:=by
 obtain ⟨h1,h2⟩:=PA (a:=n) hd;rw [atf hd,ahI,h1]
 congr 1
 exact tc (show ((wu n d).den:Int)=((dn n d).toNat:Int) by rw [h2];have:=Hh (a:=n) hd;unfold dn at this ⊢;omega)
structure Rm (P:aH) (L:Lib):Prop extends Rb P L where
 aBf:Has P L 263 dd
 Oh:Has P L 273 Cr
 aBg:Has P L 284 Sz
 aBh:Has P L 285 M3
 aBi:Has P L 286 M4
 E2:Has P L 287 IV
 pU:Has P L 301 sR
structure Rl (P:aH) (L:Lib):Prop extends Rm P L where
 aHp:Has P L 269 aid
structure Rp (P:aH) (L:Lib):Prop extends Ras P L,Rm P L
structure Rn (P:aH) (L:Lib):Prop extends Ra P L,Rp P L
section
variable {P:aH} {L:Lib}
def ahJ (h:Rm P L) {v w:AV} {a b:List Int} (hv:br v a) (hw:br w b) (ha:dg a) (hb:dg b) (na:nz a) (nb:nz b) (la:a.length<=8000000000) (lb:b.length<=8000000000) (h0:0<dv b):
  ∃q r lq lr,ak P L 289 [v,w] (.ae [q,r])/\br q lq/\br r lr/\dg lq/\nz lq/\dg lr/\nz lr/\dv lq=dv a/dv b/\dv lr=dv a%dv b:=
 ahE h.Jx h.jZ h.nD h.oM h.cR h.pU hv hw ha hb na nb la lb h0
def axA (h:Rm P L) {x y:AV} {a b:List Int} {n d:Int} {K:Nat} (hK:K<=8000000000) (hx:br x a) (ha:dg a) (na:nz a) (va:dv a=n.natAbs) (hy:br y b) (hb:dg b) (nb:nz b) (vb:dv b=d.natAbs) (kn:Bd K n) (kd:Bd K d) (hd:0<d) {tm:Env} (t2:aj tm 2= .ptr 0 0) (t3:aj tm 3= .ptr 1 0):
  fR [.t 4] (D P L (aA (aA nm.body)) ⟨tm,[(1,.cells true true true 2 [.bool (decide (d<0)),y]),(0,.cells true true true 2 [.bool (decide (n<0)),x])],2,0⟩)=some (.str (RT (wu n d))):=by
 rw [afJ hd];have la:=xf (iP ha na (by rw [va];exact kn.r)) hK
 have lb:=xf (iP hb nb (by rw [vb];exact kd.r)) hK
 obtain ⟨g,lg,e1,hg,Zo,ng,vg⟩:=ahF h.ajS h.Jx h.jZ h.nD h.oM h.cR h.pU hx hy ha hb na nb la lb;rw [va,vb,show wz n.natAbs d.natAbs=wO n d from rfl] at vg;have JR:=LM (a:=n) hd;have aBj:wO n d<=d.natAbs:=Int.gcd_le_natAbs_right n (by omega);have lg1:lg.length<=8000000000:=xf (iP Zo ng (by rw [vg];exact Nat.lt_of_le_of_lt aBj kd.r)) hK
 obtain ⟨p,p',lp,lp',e2,hp,ap,dp,np,dp',np',vp,vp'⟩:=ahJ h hx hg ha Zo na ng la lg1 (by omega);obtain ⟨q,q',lq,lq',e3,hq,bK,dq,nq,dq',nq',vq,vq'⟩:=ahJ h hy hg hb Zo nb ng lb lg1 (by omega);rw [va,vg] at vp;rw [vb,vg] at vq;have hrn:(df n d).natAbs=n.natAbs/wO n d:=by unfold df;rw [ua (Int.gcd_dvd_left n d)];rfl
 have kw:(dn n d).natAbs=d.natAbs/wO n d:=by unfold dn;rw [ua (Int.gcd_dvd_right n d)];rfl
 have hdp:=Hh (a:=n) hd;rw [<-hrn] at vp;rw [<-kw] at vq;have aHq:=awQ n d;have FF:cA (decide (n<0)) (dv lp)=df n d:=by
  rw [vp];unfold cA;by_cases h0:n<0
  ·have:¬0<=df n d:=fun h1=>by have:=tu (uk JR) h1;omega
   simp only [h0,yu,xA];omega
  ·have:¬df n d<0:=fun h1=>by have:=Int.mul_neg_of_pos_of_neg JR h1;omega
   simp only [h0,yv,yJ,xd];omega
 have kn':Bd K (df n d):=kn.le (ach n d);have X0:Bd K (dn n d):=kd.le (aci n d);have lp1:lp.length<=8000000000:=xf (iP dp np (by rw [vp];exact kn'.r)) hK
 have Kp:lq.length<=8000000000:=xf (iP dq nq (by rw [vq];exact X0.r)) hK
 obtain ⟨s,e4,hs⟩:=za h.iW h.cR (decide (n<0)) hp dp (by omega);rw [FF] at hs;obtain ⟨e5,l5⟩:=ajQ (K:=K) h.ajT h.pT (by omega) hs kn'.r;obtain ⟨u,e6,hu⟩:=za h.iW h.cR false hq dq (by omega);have zC:cA false (dv lq)=dn n d:=by rw [vq];unfold cA;simp only [yJ,xd];omega
 rw [zC] at hu;obtain ⟨e7,l7⟩:=ajQ (K:=K) h.ajT h.pT (by omega) hu X0.r;obtain ⟨sw,sl,rfl,jI,_,_,_⟩:=hs;obtain ⟨uw,ul,rfl,huw,_,_,_⟩:=hu;have aG6:0<lq.length:=by
  rcases xn lq.length with e | e
  ·rw [yC e] at vq;simp [dv] at vq;omega
  ·exact e
 by_cases Pa:lq.length=1
 ·obtain ⟨z,rfl⟩:∃z,lq=[z]:=by
   cases lq with
   | nil=>simp at Pa
   | cons z r=>cases r with
    | nil=>exact ⟨z,rfl⟩
    | cons y r=>simp at Pa
  have Kw:z=dn n d:=by simp [dv] at vq;omega
  have e8:=hq.aM (i:=0) (by simp);simp only [vI] at e8;by_cases h1:dn n d=1
  ·have hT:oJ n d=aU (df n d):=by unfold oJ;rw [yE h1]
   rw [hT];simp only [go_sem,ya,nm,aA,t2,t3,hx.ao,hy.ao,bY,yg,cX,show ¬d<0 by omega,yv,e1,hg.ao,hg.shut,e2,hp.ao,hp.bT,ap.bT,e3,hq.len,hq.bT,bK.bT,e4,jI.ao,cG,bW,e5,yG,yO,show ((1:Nat):Int)=(1:Int) from rfl,yu,e8,Kw,h1]
  ·have hT:oJ n d=(aU (df n d)++[47])++aU (dn n d):=by unfold oJ;rw [yr h1]
   rw [hT]
   simp only [go_sem,ya,nm,aA,t2,t3,hx.ao,hy.ao,bY,yg,cX,show ¬d<0 by omega,yv,e1,hg.ao,hg.shut,e2,hp.ao,hp.bT,ap.bT,e3,hq.len,hq.ao,hq.bT,bK.bT,e4,jI.ao,cG,bW,e5,yG,yO,show ((1:Nat):Int)=(1:Int) from rfl,yu,e8,Kw,h1,fZ (a:=aU (df n d)) (b:=[47]) (by simp;omega),e6,huw.ao,e7,fZ (a:=aU (df n d)++[47]) (b:=aU (dn n d)) (by simp;omega)]
 ·have h1:¬dn n d=1:=fun h1=>Pa (by
   have h2:lq.length<=1:=afI dq nq (by rw [vq,h1];decide)
   omega)
  have hT:oJ n d=(aU (df n d)++[47])++aU (dn n d):=by unfold oJ;rw [yr h1]
  rw [hT]
  simp only [go_sem,ya,nm,aA,t2,t3,hx.ao,hy.ao,bY,yg,cX,show ¬d<0 by omega,yv,e1,hg.ao,hg.shut,e2,hp.ao,hp.bT,ap.bT,e3,hq.len,hq.ao,hq.bT,bK.bT,e4,jI.ao,cG,bW,e5,show ¬(lq.length:Int)=1 by omega,fZ (a:=aU (df n d)) (b:=[47]) (by simp;omega),e6,huw.ao,e7,fZ (a:=aU (df n d)++[47]) (b:=aU (dn n d)) (by simp;omega)]
def amS (n d:Int):wu (-n) (-d)=wu n d:=by rw [Rat.divInt_neg',Int.neg_neg]
def ahK (h:Rm P L) {v w:AV} {n d:Int} {K:Nat} (hK:K<=8000000000) (hv:jJ v n) (hw:jJ w d) (kn:Bd K n) (kd:Bd K d) (hd:d≠0):ak P L 280 [v,w] (.str (RT (wu n d))):=by
 have fin:∀{x y:AV} {a b:List Int} {n' d':Int},br x a->dg a->nz a->dv a=n'.natAbs->br y b->dg b->nz b->dv b=d'.natAbs->Bd K n'->Bd K d'->0<d'->wu n' d'=wu n d->∀tm,aj tm 2= .ptr 0 0->aj tm 3= .ptr 1 0->
   D P L (.seq (bB nm.body) (bB (aA nm.body))) ⟨[(0,v),(1,w)],[],0,0⟩=some (.normal,⟨tm,[(1,.cells true true true 2 [.bool (decide (d'<0)),y]),(0,.cells true true true 2 [.bool (decide (n'<0)),x])],2,0⟩)->ak P L 280 [v,w] (.str (RT (wu n d))):=fun {x y a b n' d'} hx ha na va hy hb nb vb kn kd hd hq tm t2 t3 e=>by
  unfold ak;rw [aI h.aA8];show fR [.t 4] (D P L (.seq (bB nm.body) (.seq (bB (aA nm.body)) (aA (aA nm.body)))) ⟨[(0,v),(1,w)],[],0,0⟩)=_
  rw [BC,e,fD,<-hq];exact axA h hK hx ha na va hy hb nb vb kn kd hd t2 t3
 have ek:=hv;have Y7:=hw;obtain ⟨x,a,rfl,hx,ha,na,va⟩:=hv;obtain ⟨y,b,rfl,hy,hb,nb,vb⟩:=hw;by_cases h0:d<0
 ·obtain ⟨r,e1,hr⟩:=ajq (K:=K) h.ajV h.iW h.cR (by omega) ek kn.r;obtain ⟨s,e2,hs⟩:=ajq (K:=K) h.ajV h.iW h.cR (by omega) Y7 kd.r;obtain ⟨x',a',rfl,C8,CM,na',va'⟩:=hr;obtain ⟨y',b',rfl,C9,cC,nb',vb'⟩:=hs;simp only [h0,yu] at e2
  refine fin C8 CM na' va' C9 cC nb' vb' kn.neg kd.neg (by omega) (amS n d) _ ?_ ?_ (by
   simp only [go_sem,ya,yb,nm,bB,aA,bg,hx.pu,hx.ao,hx.one,hy.pu,hy.ao,hy.one,C8.pu,C8.one,C9.pu,C9.one,bY,yg,h0,yu,Ic,cG,e1,e2,bW,gj]<;>rfl)<;>simp only [go_sem,ya]
 ·refine fin hx ha na va hy hb nb vb kn kd (by omega) rfl _ ?_ ?_ (by simp only [go_sem,ya,yb,nm,bB,aA,bg,hx.pu,hx.one,hy.pu,hy.one,bY,yg,h0,yv]<;>rfl)<;>simp only [go_sem,ya]
end
end
end VE
