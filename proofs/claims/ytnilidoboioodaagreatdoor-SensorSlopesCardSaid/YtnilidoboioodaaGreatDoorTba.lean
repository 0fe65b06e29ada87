import Derived.Test.YtnilidoboioodaaGreatDoorTaz
import Derived.Test.YtnilidoboioodaaGreatDoorTav
import Derived.Test.YtnilidoboioodaaGreatDoorTaw
set_option linter.all false
set_option maxRecDepth 100000
open Bool renaming and_true→uW,false_eq_true→yB
open Int renaming gcd→wE,le_of_lt→vQ,mul_add→ybk,mul_le_mul_of_nonneg_left→vj,mul_nonneg→uP,natAbs_ediv_of_dvd→vG,natCast_add→yan,natCast_mul→vv,natCast_nonneg→uL,ofNat_eq_natCast→tF,ofNat_lt→vP,pow_pos→ybl,pow_succ→ux,tdiv_eq_ediv_of_nonneg→xM,tmod_eq_emod_of_nonneg→xQ,toNat_natCast→wm
open Int.ofNat renaming inj→uE
open List renaming append_assoc→xn,append_nil→wD,cons_append→xd,drop_drop→vh,drop_eq_getElem_cons→yP,drop_eq_nil_of_le→xa,drop_left→tv,drop_zero→yy,eq_nil_of_length_eq_zero→yA,getD_eq_getElem?_getD→y7,getElem?_eq_getElem→xh,getElem_cons_zero→td,length_append→yU,length_cons→yH,length_drop→xJ,length_map→xc,length_nil→yM,length_pos_iff→uA,length_take→yQ,map_append→xx,map_cons→yW,map_nil→wM,nil_append→xL,replicate→yC,set_eq_of_length_le→uT,take_append_drop→xI,take_left→yam,take_length→xy,take_of_length_le→yD,take_set→uU
open List.cons renaming injEq→ui
open Nat renaming add_comm→yag,add_zero→yX,div_add_mod→xH,div_eq_of_lt→wa,div_lt_iff_lt_mul→xG,eq_zero_or_pos→xj,gcd→we,gcd_comm→uh,le_of_lt_succ→uQ,le_refl→yv,le_trans→xi,lt_of_lt_of_le→yR,min_eq_left→xO,mod_eq_of_lt→yN,mod_lt→xq,mul_add→xt,mul_assoc→xf,mul_comm→xv,mul_le_mul→wT,mul_le_mul_left→yO,mul_le_mul_right→yS,mul_lt_mul_of_pos_right→wz,mul_one→yo,mul_pos→yaS,mul_zero→xz,pow_le_pow_right→xA,pow_lt_pow_iff_right→uZ,pow_succ→y9,reduceAdd→yc,reduceEqDiff→ya,reduceLT→yz,reduceLeDiff→yt,reduceMul→xk,zero_add→yj
open Rat renaming divInt→wb
namespace VE
open Go (IntKind)
def ahi (i:Nat) (q:List Int) (x:Int):(yC (i+1) (0:Int)++q).set i x=yC i 0++x::q:=by
 rw [List.replicate_succ',xn,List.set_append_right _ _ (by simp)]
 simp
section
variable {P:aR} {L:Lib}
def akv {v:AV} {a:List Int} (hv:bg v a) (ha:dg a) (la:a.length<=20000000000) {d:Nat} (h0:0<d) (h1:d<1000000000):
  ∀k s,(∃(j r:Nat) (q:List Int),aV [0,1,6,7,8] s=⟨[(0,v),(1,aa d),(6,.ay 0 0 a.length),(7,aa r),(8,aa ((j:Int)-1))],[(0,.cells true true true 1 ((yC j (0:Int)++q).map aa))],1,0⟩/\j=k/\j+q.length=a.length/\r<d/\dg q/\dv (a.drop j)=d*dv q+r)->
   ∃ex s',D P L (.loop [0,1,6,7,8] E7) s=some (ex,s')/\∃tm r q,s'=⟨tm,[(0,.cells true true true 1 (q.map aa))],1,0⟩/\ex= .exit 0/\ah tm 6= .ay 0 0 a.length/\ah tm 7=aa (r:Nat)/\q.length=a.length/\r<d/\dg q/\dv a=d*dv q+r:=by
 intro dq sq;generalize bz:aV [0,1,6,7,8] sq=s0;revert bz s0 sq dq;apply eb;rintro k s ⟨j,r,q,rfl,rfl,hl,hr,hd,aI⟩
 cases j with
 | zero=>
  right
  simp only [go_sem,ya,E7,show ¬(0:Int)<=((0:Nat):Int)-1 by omega];exact ⟨_,_,rfl,by simp,_,r,q,rfl,rfl,by simp only [go_sem,ya],by simp only [go_sem,ya],by omega,hr,hd,aI⟩
 | succ i=>
  left
  have hi:i<a.length:=by omega
  obtain ⟨x,hx⟩:∃x,x=a.getD i 0:=⟨_,rfl⟩;have e1:=nI hv hi;have gx:=fN ha i;rw [<-hx] at e1 gx;obtain ⟨t,ht⟩:∃t:Nat,t=r*1000000000+x.toNat:=⟨_,rfl⟩;have qX:(r:Int)*1000000000+x=(t:Int):=by omega
  have iX:t<d*1000000000:=by
   omega
  have eD:t/d<1000000000:=(xG h0).2 (by rw [xv];exact iX)
  have dC:t%d<d:=xq _ h0;have e2:((t:Nat):Int).tdiv d=((t/d:Nat):Int):=by rw [xM (by omega)];rfl
  have e3:((t:Nat):Int).tmod d=((t%d:Nat):Int):=by rw [xQ (by omega)];rfl
  have GY:(yC (i+1) (0:Int)++q).length=a.length:=by simp;omega
  have aP:=fun (hp:Hp) (ct id:Nat) (ex:Bool)=>zC (hp:=hp) (ct:=ct) (id:=id) (ex:=ex) (v:=((t/d:Nat):Int)) (l:=yC (i+1) (0:Int)++q) (o:=i) (by rw [GY];exact hi)
  simp only [ahi] at aP
  simp only [go_sem,ya,yo,E7,show ((i+1:Nat):Int)-1=(i:Int) by omega,show (0:Int)<=(i:Int) by omega,wrap64 (n:=(r:Int)*1000000000) (by omega) (by omega),e1,qX,wrapN (n:=t) (by omega),e9 _ _ _ (show (d:Int)≠0 by omega),gC _ _ _ (show (d:Int)≠0 by omega),e2,e3,wrapN (n:=t/d) (by omega),cK 0 0 (show i<a.length from hi),yj,aP]
  refine ⟨_,i,rfl,by omega,i,t%d,((t/d:Nat):Int)::q,?_,rfl,by simp;omega,dC,(fK (a:=[((t/d:Nat):Int)]) (b:=q)).2 ⟨jx.2 ⟨uL _,vP.2 eD⟩,hd⟩,?_⟩
  ·rw [wrap64 (by omega) (by omega)];simp only [go_sem,ya,yc,aA,aB hv.pu,aE _ hv.pu]<;>rfl
  ·have gS:a.drop i=x::a.drop (i+1):=by
    rw [yP hi,hx];simp [y7,xh hi]
   rw [gS];simp only [dv,aI,wm];have e:=xH t d;rw [xt,xt d,Nat.mul_left_comm 1000000000 d];omega
def Xp (h:Has P L 299 sE) (cC:Has P L 300 jI) {v:AV} {a:List Int} (hv:bg v a) (ha:dg a) (la:a.length<=20000000000) {d:Nat} (h0:0<d) (h1:d<1000000000):
  ∃r q,ai P L 299 [v,aa d] (.av [r,aa (dv a%d:Nat)])/\bg r q/\shut r=r/\bG r=r/\dg q/\nz q/\dv q=dv a/d:=by
 obtain ⟨n,hn⟩:∃n,n=a.length:=⟨_,rfl⟩;have b6:∀ct:Nat,qw ct 1 8 [.int .i64 0] (some n) (some n)=some (.ay ct 0 n,.cells true true true 1 ((yC n (0:Int)).map aa)):=fun ct=>by
  rw [E8 (sz:=1) (by omega) (by omega) (by rfl) (by rfl),Lz];rfl
 unfold ai;rw [aK h];simp only [go_sem,ya,yc,sE,hv.len,<-hn,b6];generalize hq:D P L (.loop [0,1,6,7,8] E7) _=q;obtain ⟨ex,s,rfl,tm,r,qs,rfl,rfl,t6,t7,hlen,hr,hd,aI⟩:=bP hq (akv (P:=P) (L:=L) hv ha la h0 h1 a.length) ⟨a.length,0,[],by
  rw [wrap64 (by omega) (by omega),wD,<-hn]
  simp only [go_sem,ya,yc,aA,aB hv.pu,aE _ hv.pu]<;>rfl,rfl,by simp,h0,rfl,by rw [xa (yv _)];simp [dv]⟩
 have lY:=ju true qs;rw [hlen] at lY;obtain ⟨w,e1,hw,iG⟩:=sI cC lY (by omega);have eJ:dv a/d=dv qs/\dv a%d=r:=(Nat.div_mod_unique h0).2 ⟨by omega,hr⟩;refine ⟨w,dn qs,?_,hw,iG,hw.bG,rF hd,BG qs,by rw [pH,eJ.1]⟩;have fG:∀hp:Hp,jK 0 a.length (some (true,1,qs.map aa,hp))=some (.aq true a.length (qs.map aa),hp):=fun hp=>ll true (by simp [hlen]) (by decide)
 rw [eJ.2];simp only [go_sem,ya,yc,aA,t6,t7,fG,e1,iG];rcases hw with ⟨rfl,_⟩ | ⟨e,rfl⟩<;>rfl
def anM (h:Has P L 279 Cm) (OK:Has P L 295 FU) (lT:Has P L 296 oG) (Kb:Has P L 297 FV) (kP:Has P L 302 oH) (iQ:Has P L 294 sD) (cC:Has P L 300 jI) {v w:AV} {n m:Int} {K:Nat} (hK:K<=8000000000) (hv:iZ v n) (hw:iZ w m) (hn:n.natAbs<1000000000^K) (hm:m.natAbs<1000000000^K):
  ∃r,ai P L 279 [v,w] r/\iZ r (n+m):=by
 obtain ⟨x,a,rfl,hx,ha,na,va⟩:=hv;obtain ⟨y,b,rfl,hy,hb,nb,vb⟩:=hw;have la:=xi (hJ ha na (by rw [va];exact hn)) hK
 have lb:=xi (hJ hb nb (by rw [vb];exact hm)) hK
 by_cases hs:(decide (n<0)==decide (m<0))=true
 ·obtain ⟨z,out,e1,hz,hd,aI,hl⟩:=anL OK kP hx hy ha hb (by omega) (by omega);have lo:out.length<=20000000000:=by omega
  obtain ⟨r,e2,hr⟩:=qC iQ cC (decide (n<0)) hz hd lo;have e:b5 (decide (n<0)) (dv out)=n+m:=by
   have Bo:(n<0)=(m<0):=by simpa using eq_of_beq hs
   rw [aI,va,vb];unfold b5;by_cases h0:n<0
   ·have h1:m<0:=Bo▸h0;simp only [h0,yJ,xm];omega
   ·have h1:¬m<0:=Bo▸h0;simp only [h0,yG,yB,y8];omega
  rw [e] at hr;obtain ⟨w2,l2,rfl,fJ,ig,gP,qD⟩:=hr;refine ⟨_,?_,w2,l2,rfl,fJ,ig,gP,qD⟩;unfold ai at e1 e2 ⊢;rw [aK h];simp only [go_sem,ya,yc,Cm,aZ,hx.pu,hx.ak,hx.one,hy.pu,hy.ak,hy.one,hz.ak,fJ.pu,fJ.one,bL,yj,cB,e1,mL,c8,hs,e2,eQ,bN];rcases fJ with ⟨rfl,_⟩ | ⟨e,rfl⟩<;>rfl
 ·have hs:(decide (n<0)==decide (m<0))=false:=by simpa using hs
  have Bo:¬((n<0)=(m<0)):=fun e=>by simp [e] at hs
  have ec:=OH lT hx hy ha hb na nb (by omega) (by omega);by_cases hc:dv a<dv b
  ·have dE:df (dv a) (dv b)= -1:=by unfold df;rw [yT hc]
   rw [dE] at ec;obtain ⟨z,out,e1,hz,iG,hd,zp,aI⟩:=Xo Kb kP cC hy hx hb ha nb na (by omega) (by omega);have lo:out.length<=20000000000:=by
    refine hJ hd zp ?_
    have:=iy hb
    have hk:∀K,b.length<=K->dv out<1000000000^K:=fun K h=>yR (show dv out<1000000000^b.length by omega) (xA (by decide) h)
    exact hk 20000000000 (by omega)
   obtain ⟨r,e2,hr⟩:=qC iQ cC (decide (m<0)) hz hd lo;have e:b5 (decide (m<0)) (dv out)=n+m:=by
    rw [va,vb] at aI;unfold b5;by_cases h0:m<0
    ·have h1:¬n<0:=fun h1=>Bo (by simp [h0,h1])
     simp only [h0,yJ,xm];omega
    ·have h1:n<0:=by
      by_cases h1:n<0
      ·exact h1
      ·exact absurd (by simp [h0,h1]) Bo
     simp only [h0,yG,yB,y8];omega
   rw [e] at hr;obtain ⟨w2,l2,rfl,fJ,ig,gP,qD⟩:=hr;refine ⟨_,?_,w2,l2,rfl,fJ,ig,gP,qD⟩;unfold ai at e1 e2 ec ⊢;rw [aK h];simp only [go_sem,ya,yc,Cm,aZ,hx.pu,hx.ak,hx.one,hy.pu,hy.ak,hy.one,hz.ak,hz.shut,fJ.pu,fJ.one,bL,yj,cB,e1,mL,c8,hs,ec,show ¬(0:Int)<=-1 by decide,e2,eQ,bN];rcases fJ with ⟨rfl,_⟩ | ⟨e,rfl⟩<;>rfl
  ·have dE:(0:Int)<=df (dv a) (dv b):=by unfold df;rw [yE hc];split<;>decide
   obtain ⟨z,out,e1,hz,iG,hd,zp,aI⟩:=Xo Kb kP cC hx hy ha hb na nb (by omega) (by omega);have lo:out.length<=20000000000:=by
    refine hJ hd zp ?_
    have:=iy ha
    have hk:∀K,a.length<=K->dv out<1000000000^K:=fun K h=>yR (show dv out<1000000000^a.length by omega) (xA (by decide) h)
    exact hk 20000000000 (by omega)
   obtain ⟨r,e2,hr⟩:=qC iQ cC (decide (n<0)) hz hd lo;have e:b5 (decide (n<0)) (dv out)=n+m:=by
    rw [va,vb] at aI;unfold b5;by_cases h0:n<0
    ·have h1:¬m<0:=fun h1=>Bo (by simp [h0,h1])
     simp only [h0,yJ,xm];omega
    ·have h1:m<0:=by
      by_cases h1:m<0
      ·exact h1
      ·exact absurd (by simp [h0,h1]) Bo
     simp only [h0,yG,yB,y8];omega
   rw [e] at hr;obtain ⟨w2,l2,rfl,fJ,ig,gP,qD⟩:=hr;refine ⟨_,?_,w2,l2,rfl,fJ,ig,gP,qD⟩;unfold ai at e1 e2 ec ⊢;rw [aK h];simp only [go_sem,ya,yc,Cm,aZ,hx.pu,hx.ak,hx.one,hy.pu,hy.ak,hy.one,hz.ak,hz.shut,fJ.pu,fJ.one,bL,yj,cB,e1,mL,c8,hs,ec,dE,e2,eQ,bN];rcases fJ with ⟨rfl,_⟩ | ⟨e,rfl⟩<;>rfl
def Ur {l:List Int} (hd:dg l) (hn:nz l) (h:dv l<1000000000):l.length<=1:=hJ hd hn (by simpa using h)
def anN (h:Has P L 289 oF) (lT:Has P L 296 oG) (mQ:Has P L 299 sE) (cC:Has P L 300 jI) {v w:AV} {a b:List Int} (hv:bg v a) (hw:bg w b) (ha:dg a) (hb:dg b) (na:nz a) (nb:nz b) (la:a.length<=20000000000) (lb:b.length<=1) (h0:0<dv b):
  ∃q r lq lr,ai P L 289 [v,w] (.av [q,r])/\bg q lq/\bg r lr/\dg lq/\nz lq/\dg lr/\nz lr/\dv lq=dv a/dv b/\dv lr=dv a%dv b:=by
 have ec:=OH lT hv hw ha hb na nb la (by omega);by_cases hc:dv a<dv b
 ·have dE:df (dv a) (dv b)= -1:=by unfold df;rw [yT hc]
  rw [dE] at ec;refine ⟨.af,v,[],a,?_,zN,hv,rfl,rfl,ha,na,?_,?_⟩
  ·unfold ai;rw [aK h];simp only [go_sem,ya,oF,hv.ak,hw.ak,ec,show (-1:Int)<0 by decide];rcases hv with ⟨rfl,_⟩ | ⟨e,rfl⟩<;>rfl
  ·rw [wa hc];rfl
  ·rw [yN hc]
 ·have dE:¬df (dv a) (dv b)<0:=by unfold df;rw [yE hc];split<;>decide
  have lX:b.length=1:=by
   rcases xj b.length with e | e
   ·rw [yA e] at h0;simp [dv] at h0
   ·omega
  obtain ⟨x,rfl⟩:∃x,b=[x]:=by
   cases b with
   | nil=>simp at lX
   | cons x r=>cases r with
    | nil=>exact ⟨x,rfl⟩
    | cons y r=>simp at lX
  have gx:=jx.1 hb;obtain ⟨d,hd⟩:∃d:Nat,x=d:=⟨x.toNat,by omega⟩;subst hd;have hdd:dv [((d:Nat):Int)]=d:=by simp [dv]
  rw [hdd] at h0 hc dE ec ⊢;obtain ⟨q,lq,e1,hq,hqs,anO,dq,nq,vq⟩:=Xp mQ cC hv ha la h0 (by omega);have V7:dv a%d<d:=xq _ h0;generalize dv a%d=m at*
  obtain ⟨r,e2,hr,Ph⟩:=sI cC (ju true [(m:Int)]) (by simp);refine ⟨q,r,lq,dn [(m:Int)],?_,hq,hr,dq,nq,rF (jx.2 (by omega)),BG _,vq,by rw [pH];simp [dv]⟩;have e3:=hw.bt (i:=0) (by simp);simp only [yH,yM,yj,yW,wM,td] at e2 e3;unfold ai;rw [aK h];simp only [go_sem,ya,yc,yz,yt,yo,oF,hv.ak,hw.len,hw.ak,ec,dE,yH,yM,show ((1:Nat):Int)=(1:Int) from rfl,yJ,e3,e1,anO,e2,Ph];rcases hq with ⟨rfl,_⟩ | ⟨e,rfl⟩<;>rcases hr with ⟨rfl,_⟩ | ⟨e',rfl⟩<;>rfl
end
def sv:List Int->Int
 | []=>0
 | a::r=>a+1000000000*sv r
def SA:∀(a b:List Int),sv (a++b)=sv a+1000000000^a.length*sv b
 | [],b=>by simp [sv]
 | x::a,b=>by
  simp only [xd,sv,SA a b,yH,ux,ybk]
  grind
def akw (x:Int):sv [x]=x:=by simp [sv]
def B0:∀{l:List Int} {i:Nat} {x:Int},i<l.length->sv (l.set i x)=sv l+1000000000^i*(x-l.getD i 0)
 | [],i,x,h=>by simp at h
 | a::l,0,x,_=>by simp [sv];omega
 | a::l,i+1,x,h=>by
  have ih:=B0 (l:=l) (i:=i) (x:=x) (by simpa using h);simp only [List.set_cons_succ,sv,List.getD_cons_succ,ih,ux,ybk]
  grind
def IQ {l:List Int} (i:Nat):sv (l.take (i+1))=sv (l.take i)+1000000000^i*l.getD i 0:=by
 by_cases h:i<l.length
 ·rw [List.take_succ_eq_append_getElem h,SA,yQ,xO (by omega),akw]
  grind
 ·rw [yD (by omega),yD (by omega),Ev (by omega),Int.mul_zero,Int.add_zero]
def p8:∀{l:List Int},dg l->sv l=dv l
 | [],_=>rfl
 | a::l,h=>by
  obtain ⟨h1,h2⟩:=fK.1 (show dg ([a]++l) from h);have h1:=jx.1 h1;simp only [sv,dv,p8 h2,yan,vv];omega
section
variable {pre x post:List Int} {i:Nat}
def lI:(pre++x++post).length=pre.length+x.length+post.length:=by grind
def rZ (h:i<x.length):(pre++x++post).getD (pre.length+i) 0=x.getD i 0:=by grind
def I4 (a:Int) (h:i<x.length):(pre++x++post).set (pre.length+i) a=pre++x.set i a++post:=by simp_all
end
def U2 {l:List Int} {i m:Nat} {x:Int} (h:i≠m):(l.set i x).getD m 0=l.getD m 0:=by simp_all
def adi {l:List Int} {i:Nat} {x:Int} (h:i<l.length):(l.set i x).getD i 0=x:=by simp_all
abbrev H3 (q u:List Int) (f:Int):Hp:=[(2,.cells true true true 1 (q.map aa)),(1,.cells true true false 1 (u.map aa)),(0,.cells false true true 1 [aa f])]
def Ir {live:List Nat} {tm:Env} {ct:Nat} {a b c:List AV} (ht:nG 3 (dd tm live)) (hl:(hZ (dd tm live)).length<100000):
  aV live ⟨tm,[(2,.cells true true true 1 a),(1,.cells true true false 1 b),(0,.cells false true true 1 c)],ct,3⟩=⟨dd tm live,[(2,.cells true true true 1 a),(1,.cells true true false 1 b),(0,.cells false true true 1 c)],3,3⟩:=
 QV ht ⟨by omega,.inl rfl,by omega,.inl rfl,by omega,.inl rfl,trivial⟩ (by
  have:gY 3 [(2,Obj.cells true true true 1 a),(1,Obj.cells true true false 1 b),(0,Obj.cells false true true 1 c)]=[]:=rfl
  rw [this,yM,yX];exact hl)
structure eO (x vs:List Int) (n v1 v2 u0 u1 u2:Nat):Prop where
 n2:2<=n
 nb:n<=20000000000
 lx:x.length=n+1
 lv:vs.length=n
 gx:dg x
 gv:dg vs
 dT:vs.getD (n-1) 0=(v1:Int)
 cZ:vs.getD (n-2) 0=(v2:Int)
 h0:x.getD n 0=(u0:Int)
 h1:x.getD (n-1) 0=(u1:Int)
 h2:x.getD (n-2) 0=(u2:Int)
 pos:0<v1
 lt:dv x<1000000000*dv vs
section
variable {x vs:List Int} {n v1 v2 u0 u1 u2:Nat}
def eO.G0 (h:eO x vs n v1 v2 u0 u1 u2):v1<1000000000:=by have:=fN h.gv (n-1);rw [h.dT] at this;omega
def eO.Bc (h:eO x vs n v1 v2 u0 u1 u2):v2<1000000000:=by have:=fN h.gv (n-2);rw [h.cZ] at this;omega
def eO.Zq (h:eO x vs n v1 v2 u0 u1 u2):u0<1000000000:=by have:=fN h.gx n;rw [h.h0] at this;omega
def eO.G1 (h:eO x vs n v1 v2 u0 u1 u2):u1<1000000000:=by have:=fN h.gx (n-1);rw [h.h1] at this;omega
def eO.G2 (h:eO x vs n v1 v2 u0 u1 u2):u2<1000000000:=by have:=fN h.gx (n-2);rw [h.h2] at this;omega
def eO.parts (h:eO x vs n v1 v2 u0 u1 u2):∃p vr ur,dv vs=(v1*1000000000+v2)*p+vr/\vr<p/\dv x=((u0*1000000000+u1)*1000000000+u2)*p+ur/\ur<p:=by
 obtain ⟨m,hm⟩:∃m,n=m+2:=⟨n-2,by have:=h.n2;omega⟩;subst hm;have e1:=mz (l:=vs) (m+1);have e2:=mz (l:=vs) m;have f0:=mz (l:=x) (m+2);have f1:=mz (l:=x) (m+1);have f2:=mz (l:=x) m;have dT:vs.getD (m+1) 0=(v1:Int):=h.dT;have cZ:vs.getD m 0=(v2:Int):=h.cZ;have h0:x.getD (m+2) 0=(u0:Int):=h.h0;have h1:x.getD (m+1) 0=(u1:Int):=h.h1;have h2:x.getD m 0=(u2:Int):=h.h2
 rw [yD (by have:=h.lv;omega),dT,e2,cZ] at e1
 rw [yD (by have:=h.lx;omega),h0,f1,h1,f2,h2] at f0;simp only [wm] at e1 f0;have g1:=iy (zS h.gv m)
 rw [yQ,xO (by have:=h.lv;omega)] at g1;have g2:=iy (zS h.gx m)
 rw [yQ,xO (by have:=h.lx;omega)] at g2;refine ⟨1000000000^m,_,_,?_,g1,?_,g2⟩
 ·rw [e1,y9,alN]
 ·rw [f0,show 1000000000^(m+2)=1000000000^m*1000000000*1000000000 by rw [y9,y9],y9,alO]
def eO.down (h:eO x vs n v1 v2 u0 u1 u2) {t r:Nat} (ht:t*v1+r=u0*1000000000+u1) (hr:r*1000000000+u2<t*v2):dv x/dv vs<=t-1:=by
 obtain ⟨p,vr,ur,h1,h2,h3,h4⟩:=h.parts;exact Ru h1 h3 h4 ht hr
def eO.stop (h:eO x vs n v1 v2 u0 u1 u2) {t r:Nat} (iX:t<1000000000) (ht:t*v1+r=u0*1000000000+u1) (hr:1000000000<=r\/t*v2<=r*1000000000+u2):t<=dv x/dv vs+1:=by
 obtain ⟨p,vr,ur,h1,h2,h3,h4⟩:=h.parts;exact Sl (by decide) h1 h2 h3 h.pos h.Bc iX ht hr
def eO.first (h:eO x vs n v1 v2 u0 u1 u2):dv x/dv vs<=(u0*1000000000+u1)/v1:=by
 obtain ⟨p,vr,ur,h1,h2,h3,h4⟩:=h.parts;exact Lk h1 h3 h4 h.G2 h.pos
def eO.top (h:eO x vs n v1 v2 u0 u1 u2):u0<=v1:=by
 obtain ⟨p,vr,ur,h1,h2,h3,h4⟩:=h.parts;exact Sm h1 h3 h2 h.Bc h.lt
def eO.digit (h:eO x vs n v1 v2 u0 u1 u2):dv x/dv vs<1000000000:=by
 refine (xG ?_).2 h.lt;rcases xj (dv vs) with h0 | h0
 ·have:=h.lt;rw [h0] at this;simp at this
 ·exact h0
def eO.small (h:eO x vs n v1 v2 u0 u1 u2) {t r:Nat} (ht:t*v1+r=u0*1000000000+u1) (hb:1000000000<=t):r<1000000000:=by
 have h1:=h.top;have h2:=h.G1;have h3:=yS v1 hb
 grind
end
def anP {r u:Nat} (hr:r<1000000000) (hu:u<1000000000):r*1000000000<9223372036854775808/\r*1000000000+u<9223372036854775808:=by omega
section
variable {P:aR} {L:Lib}
def ahj {w:AV} {x vs pre post qs:List Int} {f:Int} (hw:bg w vs) {n v1 v2 u0 u1 u2 M:Nat} (hl:eO x vs n v1 v2 u0 u1 u2) (hM:M=pre.length+x.length+post.length) (Hg:M<=50000000000):
  ∀k s,(∃t r:Nat,aV [0,1,2,7,9,10] s=⟨[(0,.ay 1 0 M),(1,w),(2,aa pre.length),(7,aa n),(9,aa t),(10,aa r)],H3 qs (pre++x++post) f,3,3⟩/\t*v1+r=u0*1000000000+u1/\r<1000000000/\dv x/dv vs<=t/\t=k)->
   ∃ex s',D P L (.loop [0,1,2,7,9,10] rU) s=some (ex,s')/\∃tm ct t,s'=⟨tm,H3 qs (pre++x++post) f,ct,3⟩/\((ex= .exit 0/\ah tm 9=aa (t:Nat))\/(ex= .ret/\ah tm 6=aa (t:Nat)))/\ct=3/\t<1000000000/\dv x/dv vs<=t/\t<=dv x/dv vs+1:=by
 intro dq sq;generalize bz:aV [0,1,2,7,9,10] sq=s0;revert bz s0 sq dq;apply eb;rintro k s ⟨t,r,rfl,ht,hr,hQ,rfl⟩;have da:=hl.n2;have mZ:=hl.nb;have hlx:=hl.lx;have Cv:=hl.G0;have Og:=hl.Bc;have WY:=hl.G2;have anQ:=hl.Zq;have J0:=hl.G1;have sP:=hl.pos;have nf:=nI hw (i:=n-2) (by have:=hl.lv;omega);have dU:=nI hw (i:=n-1) (by have:=hl.lv;omega);rw [hl.cZ] at nf;rw [hl.dT] at dU;have pq:=oC (l:=pre++x++post) (o:=pre.length+(n-2)) (by rw [lI];omega);rw [rZ (by omega),hl.h2] at pq;have q9:(n:Int)-2=((n-2:Nat):Int):=by omega
 have nh:(n:Int)-1=((n-1:Nat):Int):=by omega
 have Hh:(pre.length:Int)+(n:Int)=((pre.length+n:Nat):Int):=rfl;have Qe:((pre.length+n:Nat):Int)-2=((pre.length+(n-2):Nat):Int):=by omega
 have arp:t<=1000000000000000000:=by
  have:=yO t sP
  omega
 have arq:t*1<=t*v1:=yO t sP;obtain ⟨Qf,Qg⟩:=anP hr WY;by_cases po:1000000000<=t\/r*1000000000+u2<t*v2
 ·have ht0:0<t:=by
   rcases xj t with h0 | h0
   ·subst h0;omega
   ·exact h0
  have h1:(t-1)*v1+(r+v1)=u0*1000000000+u1:=by
   obtain ⟨p,rfl⟩:∃p,t=p+1:=⟨t-1,by omega⟩;rw [Nat.add_mul,Nat.one_mul] at ht;rw [Nat.add_sub_cancel];omega
  have Be:dv x/dv vs<=t-1:=by
   rcases po with h | h
   ·have:=hl.digit;generalize dv x/dv vs=q at*;omega
   ·exact hl.down ht h
  have K3:((t:Nat):Int)-1=((t-1:Nat):Int):=by omega
  have stop:1000000000<=r+v1->t-1<1000000000/\t-1<=dv x/dv vs+1:=fun hb=>by
   have aO:t-1<1000000000:=by
    by_cases oW:1000000000<=t-1
    ·have:=hl.small h1 oW;omega
    ·omega
   exact ⟨aO,hl.stop aO h1 (.inl hb)⟩
  by_cases hb:1000000000<=t
  ·by_cases kw:1000000000<=r+v1
   ·right
    obtain ⟨s1,s2⟩:=stop kw
    simp only [go_sem,ya,rU,H3,show (1000000000:Int)<=(t:Int) by omega,K3,wrapN (n:=t-1) (by omega),nh,wrapN (n:=n-1) (by omega),dU,show (r:Int)+(v1:Int)=((r+v1:Nat):Int) from rfl,wrapN (n:=r+v1) (by omega),show (1000000000:Int)<=((r+v1:Nat):Int) by omega];exact ⟨_,_,rfl,by simp,_,_,t-1,rfl,.inr ⟨rfl,by simp only [go_sem]⟩,rfl,s1,Be,s2⟩
   ·left
    simp only [go_sem,ya,rU,H3,show (1000000000:Int)<=(t:Int) by omega,K3,wrapN (n:=t-1) (by omega),nh,wrapN (n:=n-1) (by omega),dU,show (r:Int)+(v1:Int)=((r+v1:Nat):Int) from rfl,wrapN (n:=r+v1) (by omega),show ¬(1000000000:Int)<=((r+v1:Nat):Int) by omega];refine ⟨_,t-1,rfl,by omega,t-1,r+v1,?_,h1,by omega,Be,rfl⟩;rw [Ir (by simp only [go_sem,ya,yz,jX,kH,jT,jR,nt hw.pu,wu]) (by simp only [go_sem,ya,yc,yz,aB hw.pu])];simp only [go_sem,ya]
  ·have zd:=wT (show t<=999999999 by omega) (show v2<=999999999 by omega);have OL:r*1000000000+u2<t*v2:=po.resolve_left hb;obtain ⟨m,hm⟩:∃m,t*v2=m:=⟨_,rfl⟩;have em:(t:Int)*(v2:Int)=(m:Int):=by rw [<-hm,vv]
   rw [hm] at OL zd;have CY:(r:Int)*1000000000=((r*1000000000:Nat):Int):=by omega
   have zk:((r*1000000000:Nat):Int)+(u2:Int)=((r*1000000000+u2:Nat):Int):=rfl;by_cases kw:1000000000<=r+v1
   ·right
    obtain ⟨s1,s2⟩:=stop kw
    simp only [go_sem,ya,yo,rU,H3,show ¬(1000000000:Int)<=(t:Int) by omega,q9,wrapN (n:=n-2) (by omega),nf,em,wrapN (n:=m) (by omega),CY,wrapN Qf,Hh,wrapN (n:=pre.length+n) (by omega),Qe,wrapN (n:=pre.length+(n-2)) (by omega),cK 1 0 (show pre.length+(n-2)<M by omega),yj,pq,zk,wrapN Qg,show ((r*1000000000+u2:Nat):Int)<(m:Int) from vP.2 OL,K3,wrapN (n:=t-1) (by omega),nh,wrapN (n:=n-1) (by omega),dU,show (r:Int)+(v1:Int)=((r+v1:Nat):Int) from rfl,wrapN (n:=r+v1) (by omega),show (1000000000:Int)<=((r+v1:Nat):Int) by omega];exact ⟨_,_,rfl,by simp,_,_,t-1,rfl,.inr ⟨rfl,by simp only [go_sem]⟩,rfl,s1,Be,s2⟩
   ·left
    simp only [go_sem,ya,yo,rU,H3,show ¬(1000000000:Int)<=(t:Int) by omega,q9,wrapN (n:=n-2) (by omega),nf,em,wrapN (n:=m) (by omega),CY,wrapN Qf,Hh,wrapN (n:=pre.length+n) (by omega),Qe,wrapN (n:=pre.length+(n-2)) (by omega),cK 1 0 (show pre.length+(n-2)<M by omega),yj,pq,zk,wrapN Qg,show ((r*1000000000+u2:Nat):Int)<(m:Int) from vP.2 OL,K3,wrapN (n:=t-1) (by omega),nh,wrapN (n:=n-1) (by omega),dU,show (r:Int)+(v1:Int)=((r+v1:Nat):Int) from rfl,wrapN (n:=r+v1) (by omega),show ¬(1000000000:Int)<=((r+v1:Nat):Int) by omega];refine ⟨_,t-1,rfl,by omega,t-1,r+v1,?_,h1,by omega,Be,rfl⟩;rw [Ir (by simp only [go_sem,ya,yz,jX,kH,jT,jR,nt hw.pu,wu]) (by simp only [go_sem,ya,yc,yz,aB hw.pu])];simp only [go_sem,ya]
 ·right
  have iX:t<1000000000:=Nat.lt_of_not_le fun e=>po (.inl e)
  have zd:=wT (show t<=999999999 from uQ iX) (show v2<=999999999 from uQ Og);have OM:t*v2<=r*1000000000+u2:=Nat.le_of_not_lt fun e=>po (.inr e)
  have alZ:=hl.stop iX ht (.inr OM);obtain ⟨m,hm⟩:∃m,t*v2=m:=⟨_,rfl⟩;have em:(t:Int)*(v2:Int)=(m:Int):=by rw [<-hm,vv]
  rw [hm] at OM zd;have CY:(r:Int)*1000000000=((r*1000000000:Nat):Int):=by omega
  have zk:((r*1000000000:Nat):Int)+(u2:Int)=((r*1000000000+u2:Nat):Int):=rfl
  simp only [go_sem,ya,yo,rU,H3,show ¬(1000000000:Int)<=(t:Int) by omega,q9,wrapN (n:=n-2) (by omega),nf,em,wrapN (n:=m) (by omega),CY,wrapN Qf,Hh,wrapN (n:=pre.length+n) (by omega),Qe,wrapN (n:=pre.length+(n-2)) (by omega),cK 1 0 (show pre.length+(n-2)<M by omega),yj,pq,zk,wrapN Qg,show ¬((r*1000000000+u2:Nat):Int)<(m:Int) from fun e=>Nat.not_lt_of_le OM (vP.1 e)];exact ⟨_,_,rfl,by simp,_,_,t,rfl,.inl ⟨rfl,by simp only [go_sem,ya]⟩,rfl,iX,hQ,alZ⟩
def al0 (h:Has P L 301 qv) {w:AV} {x vs pre post qs:List Int} {f:Int} (hw:bg w vs) {n v1 v2 u0 u1 u2 M:Nat} (hl:eO x vs n v1 v2 u0 u1 u2) (hM:M=pre.length+x.length+post.length) (Hg:M<=50000000000):
  ∃t:Nat,gD P L (D P L) (H3 qs (pre++x++post) f) 3 301 [.ay 1 0 M,w,aa pre.length]=some (aa t,H3 qs (pre++x++post) f,3)/\t<1000000000/\dv x/dv vs<=t/\t<=dv x/dv vs+1:=by
 have da:=hl.n2;have mZ:=hl.nb;have hlx:=hl.lx;have pv:below 3 w:=nt hw.pu;have Cv:=hl.G0;have anQ:=hl.Zq;have J0:=hl.G1;have sP:=hl.pos;have dU:=nI hw (i:=n-1) (by have:=hl.lv;omega);rw [hl.dT] at dU;have zn:=oC (l:=pre++x++post) (o:=pre.length+n) (by rw [lI];omega);rw [rZ (by omega),hl.h0] at zn;have zo:=oC (l:=pre++x++post) (o:=pre.length+(n-1)) (by rw [lI];omega);rw [rZ (by omega),hl.h1] at zo;have nh:(n:Int)-1=((n-1:Nat):Int):=by omega
 have Hh:(pre.length:Int)+(n:Int)=((pre.length+n:Nat):Int):=rfl;have pn1:((pre.length+n:Nat):Int)-1=((pre.length+(n-1):Nat):Int):=by omega
 obtain ⟨m,hm⟩:∃m,m=u0*1000000000+u1:=⟨_,rfl⟩;have em:(u0:Int)*1000000000=((u0*1000000000:Nat):Int):=by omega
 have em2:((u0*1000000000:Nat):Int)+(u1:Int)=(m:Int):=by omega
 have eJ:=xH m v1;have oL:=xq m sP;have I3:=hl.first;rw [<-hm] at I3;have arH:m/v1<=m:=Nat.div_le_self _ _;have oq:IntKind.wrap .i64 ((m:Int).tdiv (v1:Int))=((m/v1:Nat):Int):=by
  rw [xM (by omega),<-Int.natCast_ediv,wrapN (by omega)]
 have or':(m:Int).tmod (v1:Int)=((m%v1:Nat):Int):=by rw [xQ (by omega),<-Int.natCast_emod]
 rw [xv] at eJ;generalize m/v1=q0 at*
 generalize m%v1=r0 at*
 have gN:∃ex tm t,D P L qv.body ⟨eE 0 [.ay 1 0 M,w,aa pre.length],H3 qs (pre++x++post) f,3,3⟩=some (ex,⟨tm,H3 qs (pre++x++post) f,3,3⟩)/\(ex= .normal\/ex= .ret)/\ah tm 6=aa (t:Nat)/\t<1000000000/\dv x/dv vs<=t/\t<=dv x/dv vs+1:=by
  simp only [go_sem,ya,yo,qv,H3,hw.len,hl.lv,Hh,wrapN (n:=pre.length+n) (by omega),cK 1 0 (show pre.length+n<M by omega),yj,zn,em,wrapN (n:=u0*1000000000) (by omega),pn1,wrapN (n:=pre.length+(n-1)) (by omega),cK 1 0 (show pre.length+(n-1)<M by omega),zo,em2,wrapN (n:=m) (by omega),nh,wrapN (n:=n-1) (by omega),dU,e9 _ _ _ (show (v1:Int)≠0 by omega),gC _ _ _ (show (v1:Int)≠0 by omega),oq,or'];generalize kz:D P L (.loop [0,1,2,7,9,10] rU) _=qq;obtain ⟨ex,s,rfl,tm,ct,t,rfl,oI,rfl,g1,g2,g3⟩:=bP kz (ahj (P:=P) (L:=L) (qs:=qs) (f:=f) hw hl hM Hg q0) ⟨q0,r0,by
   rw [Ir (by simp only [go_sem,ya,yz,jX,kH,jT,jR,pv,wu]) (by simp only [go_sem,ya,yc,yz,aB hw.pu])]
   simp only [go_sem,ya],by omega,by omega,I3,rfl⟩
  rcases oI with ⟨rfl,h9⟩ | ⟨rfl,h6⟩
  ·simp only [go_sem,yz,H3,Ir,jX,jT,jR,h9,and_self];exact ⟨_,_,t,rfl,.inr rfl,by simp only [go_sem],g1,g2,g3⟩
  ·simp only [go_sem];exact ⟨_,_,t,rfl,.inr rfl,h6,g1,g2,g3⟩
 obtain ⟨ex,tm,t,g1,g2,g3,g4,g5,g6⟩:=gN;exact ⟨t,Uq h g1 g2 (by show gA _ [RV.t 6]=_;rw [N8,Nz,g3]),g4,g5,g6⟩
end
def anR {t v bo:Int} (ht:0<=t/\t<1000000000) (hv:0<=v/\v<1000000000) (hb:0<=bo/\bo<1000000000):0<=t*v/\t*v<=999999998000000001/\0<=t*v+bo/\t*v+bo<=999999999000000000:=by
 have h1:=uP ht.1 hv.1;have h2:=Int.mul_le_mul (show t<=999999999 by omega) (show v<=999999999 by omega) hv.1 (by decide);omega
def anS {x p:Int} (hx:0<=x/\x<1000000000) (hp:0<=p/\p<=999999999000000000):
  (x-p.tmod 1000000000<0->0<=x-p.tmod 1000000000+1000000000/\x-p.tmod 1000000000+1000000000<1000000000/\0<=p.tdiv 1000000000+1/\p.tdiv 1000000000+1<1000000000/\x-p.tmod 1000000000+1000000000+p=x+1000000000*(p.tdiv 1000000000+1))/\
  (¬x-p.tmod 1000000000<0->x-p.tmod 1000000000<1000000000/\0<=p.tdiv 1000000000/\p.tdiv 1000000000<1000000000/\x-p.tmod 1000000000+p=x+1000000000*p.tdiv 1000000000):=by grind
def MN {l:List Int} (h:dg l) {i:Nat} {z:Int} (hz:0<=z/\z<1000000000):dg (l.set i z):=IY h hz
def ahk {b p z q v bo rb x X Y S:Int} (h2:z+(q*v+bo)=x+b*rb) (h3:Y+q*X=S+p*bo):(Y+p*(z-x))+q*(X+p*v)=S+p*b*rb:=by grind
section
variable {P:aR} {L:Lib}
def ahl {w:AV} {x vs pre post qs:List Int} {f:Int} (hw:bg w vs) {n M m:Nat} (lv:vs.length=n) (hM:M=pre.length+(n+1)+post.length) (Hg:M<=50000000000) (gv:dg vs) {t:Int} (ht:0<=t/\t<1000000000):
  ∀k s,(∃(i:Nat) (bo:Int) (y:List Int),aV [8,9,10,11,12,13,14,15,16] s=⟨[(8,.ay 0 0 1),(9,w),(10,aa n),(11,.ay 1 0 M),(12,.ay 2 0 m),(13,aa pre.length),(14,aa t),(15,aa bo),(16,aa i)],H3 qs (pre++y++post) f,3,0⟩/\i+k=n/\y.length=n+1/\dg y/\(0<=bo/\bo<1000000000)/\
    sv y+t*sv (vs.take i)=sv x+1000000000^i*bo)->
   ∃ex s',D P L (.loop [8,9,10,11,12,13,14,15,16] BU) s=some (ex,s')/\∃tm bo y,s'=⟨tm,H3 qs (pre++y++post) f,3,0⟩/\ex= .exit 4/\ah tm 8= .ay 0 0 1/\ah tm 9=w/\ah tm 10=aa n/\ah tm 11= .ay 1 0 M/\ah tm 12= .ay 2 0 m/\ah tm 13=aa pre.length/\ah tm 14=aa t/\ah tm 15=aa bo/\y.length=n+1/\dg y/\(0<=bo/\bo<1000000000)/\
    sv y+t*sv vs=sv x+1000000000^n*bo:=by
 intro dq sq;generalize bz:aV [8,9,10,11,12,13,14,15,16] sq=s0;revert bz s0 sq dq;apply eb;rintro k s ⟨i,bo,y,rfl,hk,ly,gy,gT,aI⟩;by_cases hi:i<n
 ·left
  have nX:=fN gv i;have ni:=fN gy i;have ev:=nI hw (i:=i) (by omega);have ey:=oC (l:=pre++y++post) (o:=pre.length+i) (by rw [lI];omega);rw [rZ (by omega)] at ey;have dQ:=IQ (l:=vs) i;obtain ⟨a,ha⟩:∃a,a=vs.getD i 0:=⟨_,rfl⟩;obtain ⟨d,hd⟩:∃d,d=y.getD i 0:=⟨_,rfl⟩;rw [<-ha] at nX ev dQ;rw [<-hd] at ni ey;obtain ⟨p1,p2,p3,p4⟩:=anR ht nX gT;obtain ⟨s1,s2⟩:=anS ni ⟨p3,p4⟩;have dw:(i:Int)+(pre.length:Int)=((pre.length+i:Nat):Int):=by omega
  have aP:=fun (hp:Hp) (ct:Nat) (z:Int)=>zC (hp:=hp) (ct:=ct) (id:=1) (v:=z) (ex:=false) (l:=pre++y++post) (o:=pre.length+i) (by rw [lI];omega)
  have lP:=fun z=>I4 (pre:=pre) (x:=y) (post:=post) (i:=i) z (by omega)
  have a6:=fun z=>B0 (l:=y) (i:=i) (x:=z) (by omega)
  rw [<-hd] at a6;obtain ⟨pr,lW⟩:∃pr,pr=t*a+bo:=⟨_,rfl⟩;obtain ⟨dm,eJ⟩:∃dm,pr.tmod 1000000000=dm:=⟨_,rfl⟩;obtain ⟨dq,Bi⟩:∃dq,pr.tdiv 1000000000=dq:=⟨_,rfl⟩;have arI:0<=dm/\dm<1000000000:=by rw [<-eJ,xQ (by omega)];omega
  have arJ:0<=dq/\dq<1000000000:=by rw [<-Bi,xM (by omega)];omega
  rw [<-lW,eJ,Bi] at s1 s2;have key:∀z rb,z+(t*a+bo)=d+1000000000*rb->sv (y.set i z)+t*sv (vs.take (i+1))=sv x+1000000000^(i+1)*rb:=fun z rb h=>by
   rw [a6,dQ,ux];exact ahk h aI
  rw [<-lW] at key;by_cases gh:d-dm<0
  ·obtain ⟨q1,q2,q3,q4,q5⟩:=s1 gh;have kk:=key _ _ q5;obtain ⟨dr,gS⟩:∃dr,d-dm=dr:=⟨_,rfl⟩;rw [gS] at gh kk q1 q2
   simp only [go_sem,ya,yo,BU,H3,show (i:Int)<(n:Int) by omega,ev,wrap64 (n:=t*a) (by omega) (by omega),<-lW,wrap64 (n:=pr) (by omega) (by omega),dw,wrapN (n:=pre.length+i) (by omega),cK 1 0 (show pre.length+i<M by omega),yj,ey,gC _ _ _ (show (1000000000:Int)≠0 by decide),e9 _ _ _ (show (1000000000:Int)≠0 by decide),eJ,Bi,gS,wrap64 (n:=dr) (by omega) (by omega),wrap64 (n:=dq) (by omega) (by omega),gh,wrap64 (n:=dr+1000000000) (by omega) (by omega),wrap64 (n:=dq+1) (by omega) (by omega),aP,lP];refine ⟨_,k-1,rfl,by omega,i+1,dq+1,y.set i (dr+1000000000),?_,by omega,by simp [ly],MN gy ⟨q1,q2⟩,⟨q3,q4⟩,kk⟩;rw [wrap64 (by omega) (by omega)];simp only [go_sem,ya,yc,aA,aB hw.pu,aE _ hw.pu]<;>rfl
  ·obtain ⟨q2,q3,q4,q5⟩:=s2 gh;have kk:=key _ _ q5;obtain ⟨dr,gS⟩:∃dr,d-dm=dr:=⟨_,rfl⟩;rw [gS] at gh kk q2
   simp only [go_sem,ya,yo,BU,H3,show (i:Int)<(n:Int) by omega,ev,wrap64 (n:=t*a) (by omega) (by omega),<-lW,wrap64 (n:=pr) (by omega) (by omega),dw,wrapN (n:=pre.length+i) (by omega),cK 1 0 (show pre.length+i<M by omega),yj,ey,gC _ _ _ (show (1000000000:Int)≠0 by decide),e9 _ _ _ (show (1000000000:Int)≠0 by decide),eJ,Bi,gS,wrap64 (n:=dr) (by omega) (by omega),wrap64 (n:=dq) (by omega) (by omega),gh,aP,lP];refine ⟨_,k-1,rfl,by omega,i+1,dq,y.set i dr,?_,by omega,by simp [ly],MN gy ⟨by omega,q2⟩,⟨q3,q4⟩,kk⟩;rw [wrap64 (by omega) (by omega)];simp only [go_sem,ya,yc,aA,aB hw.pu,aE _ hw.pu]<;>rfl
 ·right
  have:i=n:=by omega
  subst this;rw [yD (by omega)] at aI;simp only [go_sem,ya,BU,H3,show ¬(i:Int)<(i:Int) by omega];exact ⟨_,_,rfl,by simp,_,bo,y,rfl,rfl,by simp only [go_sem,ya],by simp only [go_sem,ya],by simp only [go_sem,ya],by simp only [go_sem,ya],by simp only [go_sem,ya],by simp only [go_sem,ya],by simp only [go_sem,ya],by simp only [go_sem,ya],ly,gy,gT,aI⟩
def ahm {b p z v c c' x X Y S:Int} (h2:z+b*c'=x+v+c) (h3:Y+p*c=S+X):(Y+p*(z-x))+p*b*c'=S+(X+p*v):=by grind
def ahn {w:AV} {y0 vs pre post qs:List Int} {f:Int} (hw:bg w vs) {n M m:Nat} (lv:vs.length=n) (hM:M=pre.length+(n+1)+post.length) (Hg:M<=50000000000) (gv:dg vs) {t top:Int}:
  ∀k s,(∃(i:Nat) (c:Int) (y:List Int),aV [8,9,10,11,12,13,14,19,20] s=⟨[(8,.ay 0 0 1),(9,w),(10,aa n),(11,.ay 1 0 M),(12,.ay 2 0 m),(13,aa pre.length),(14,aa t),(19,aa c),(20,aa i)],H3 qs (pre++y++post) f,3,0⟩/\i+k=n/\y.length=n+1/\dg (y.take n)/\y.getD n 0=top/\(0<=c/\c<=1)/\
    sv y+1000000000^i*c=sv y0+sv (vs.take i))->
   ∃ex s',D P L (.loop [8,9,10,11,12,13,14,19,20] E1) s=some (ex,s')/\∃tm c y,s'=⟨tm,H3 qs (pre++y++post) f,3,0⟩/\ex= .exit 6/\ah tm 8= .ay 0 0 1/\ah tm 9=w/\ah tm 10=aa n/\ah tm 11= .ay 1 0 M/\ah tm 12= .ay 2 0 m/\ah tm 13=aa pre.length/\ah tm 14=aa t/\ah tm 19=aa c/\y.length=n+1/\dg (y.take n)/\y.getD n 0=top/\(0<=c/\c<=1)/\
    sv y+1000000000^n*c=sv y0+sv vs:=by
 intro dq sq;generalize bz:aV [8,9,10,11,12,13,14,19,20] sq=s0;revert bz s0 sq dq;apply eb;rintro k s ⟨i,c,y,rfl,hk,ly,gy,lQ,hc,aI⟩;by_cases hi:i<n
 ·left
  have nX:=fN gv i;have ni:=fN gy i;have e0:(y.take n).getD i 0=y.getD i 0:=by
   simp [y7,hi]
  rw [e0] at ni;have ev:=nI hw (i:=i) (by omega);have ey:=oC (l:=pre++y++post) (o:=pre.length+i) (by rw [lI];omega);rw [rZ (by omega)] at ey;have dQ:=IQ (l:=vs) i;obtain ⟨a,ha⟩:∃a,a=vs.getD i 0:=⟨_,rfl⟩;obtain ⟨d,hd⟩:∃d,d=y.getD i 0:=⟨_,rfl⟩;rw [<-ha] at nX ev dQ;rw [<-hd] at ni ey;have dw:(i:Int)+(pre.length:Int)=((pre.length+i:Nat):Int):=by omega
  have a6:=fun z=>B0 (l:=y) (i:=i) (x:=z) (by omega)
  rw [<-hd] at a6;have oL:(d+a+c).tmod 1000000000=(d+a+c)%1000000000:=xQ (by omega);have hdiv:(d+a+c).tdiv 1000000000=(d+a+c)/1000000000:=xM (by omega);obtain ⟨z,hz⟩:∃z,z=(d+a+c)%1000000000:=⟨_,rfl⟩;obtain ⟨c',jO⟩:∃z,z=(d+a+c)/1000000000:=⟨_,rfl⟩;have OY:z+1000000000*c'=d+a+c:=by omega
  rw [<-hz] at oL;rw [<-jO] at hdiv;have aP:=fun (hp:Hp) (ct:Nat)=>zC (hp:=hp) (ct:=ct) (id:=1) (v:=z) (ex:=false) (l:=pre++y++post) (o:=pre.length+i) (by rw [lI];omega)
  have lP:=I4 (pre:=pre) (x:=y) (post:=post) (i:=i) z (by omega)
  simp only [go_sem,ya,yo,E1,H3,show (i:Int)<(n:Int) by omega,ev,dw,wrapN (n:=pre.length+i) (by omega),cK 1 0 (show pre.length+i<M by omega),yj,ey,wrap64 (n:=d+a) (by omega) (by omega),wrap64 (n:=d+a+c) (by omega) (by omega),gC _ _ _ (show (1000000000:Int)≠0 by decide),e9 _ _ _ (show (1000000000:Int)≠0 by decide),oL,hdiv,wrap64 (n:=c') (by omega) (by omega),aP,lP];refine ⟨_,k-1,rfl,by omega,i+1,c',y.set i z,?_,by omega,by simp [ly],?_,by rw [U2 (by omega)];exact lQ,⟨by omega,by omega⟩,?_⟩
  ·rw [wrap64 (by omega) (by omega)];simp only [go_sem,ya,yc,aA,aB hw.pu,aE _ hw.pu]<;>rfl
  ·rw [uU];exact MN gy ⟨by omega,by omega⟩
  ·rw [a6,dQ,ux];exact ahm OY aI
 ·right
  have:i=n:=by omega
  subst this;rw [yD (show vs.length<=i by omega)] at aI;simp only [go_sem,ya,E1,H3,show ¬(i:Int)<(i:Int) by omega];exact ⟨_,_,rfl,by simp,_,c,y,rfl,rfl,by simp only [go_sem,ya],by simp only [go_sem,ya],by simp only [go_sem,ya],by simp only [go_sem,ya],by simp only [go_sem,ya],by simp only [go_sem,ya],by simp only [go_sem,ya],by simp only [go_sem,ya],ly,gy,lQ,hc,aI⟩
def aho {A V t:Nat} {y:List Int} {n:Nat} (hV:0<V) (ly:y.length=n+1) (gy:dg (y.take n)) (h:sv y=(A:Int)-t*V) (h1:A/V<=t) (h2:t<=A/V+1):
  (¬y.getD n 0<0->t=A/V/\sv y=((A%V:Nat):Int))/\(y.getD n 0<0->t=A/V+1/\sv y+V=((A%V:Nat):Int)):=by
 have eJ:=xH A V;have hm:=xq A hV;have dQ:=IQ (l:=y) n;rw [yD (by omega),p8 gy] at dQ;have Gi:=iy gy;have hp:(0:Int)<1000000000^n:=ybl (by decide);generalize y.getD n 0=top at*
 generalize A/V=Q at*
 have hq:t=Q\/t=Q+1:=by omega
 constructor
 ·intro h0;have h3:0<=(1000000000:Int)^n*top:=uP (vQ hp) (by omega);rcases hq with rfl | rfl
  ·grind
  ·grind
 ·intro h0;have h3:(1000000000:Int)^n*top<=-(1000000000^n):=by
   have:=vj (show top<=-1 by omega) (vQ hp)
   grind
  rcases hq with rfl | rfl
  ·grind
  ·grind
def TB {y:List Int} {n:Nat} (ly:y.length=n+1) (gy:dg (y.take n)) (h0:0<=sv y) (h1:sv y<1000000000^n):y.getD n 0=0/\dg y/\sv y=dv y:=by
 have dQ:=IQ (l:=y) n;rw [yD (by omega),p8 gy] at dQ;have Gi:=iy gy;rw [yQ,xO (by omega)] at Gi;have hp:(0:Int)<1000000000^n:=ybl (by decide);have B8:((1000000000^n:Nat):Int)=(1000000000:Int)^n:=by simp
 have ars:(dv (y.take n):Int)<1000000000^n:=by omega
 have ht:y.getD n 0=0:=by
  generalize y.getD n 0=top at*
  rcases Int.lt_trichotomy top 0 with h | h | h
  ·have:=vj (show top<=-1 by omega) (vQ hp)
   grind
  ·grind
  ·have:=vj (show 1<=top by omega) (vQ hp)
   grind
 have hg:dg y:=by
  have e:y=y.take n++[0]:=by
   have h1:y=y.take n++y.drop n:=(xI n y).symm;have h2:y.drop n=[0]:=by
    rw [yP (by omega),xa (by omega)]
    grind
   grind
  rw [e];exact fK.2 ⟨gy,jx.2 ⟨by decide,by decide⟩⟩
 exact ⟨ht,hg,p8 hg⟩
end
def ahp {l:List Int} {i:Nat} (h:i<l.length):dv (l.drop i)=(l.getD i 0).toNat+1000000000*dv (l.drop (i+1)):=by
 rw [yP h]
 have:l[i]=l.getD i 0:=by simp_all
 rw [this];rfl
def Mn (l:List Int) (i:Nat) (h:i<=l.length):dv l=dv (l.take i)+1000000000^i*dv (l.drop i):=by
 conv=>lhs;rw [<-xI i l]
 rw [kC,yQ,xO h]
def ahq {sx sy sV:Int} {p:Int} {bo t:Int} {yn z:Int} {Zr:Int} (h1:sy+t*sV=sx+p*bo) (h2:Zr=sy+p*(z-yn)) (h3:z=yn-bo):Zr=sx-t*sV:=by grind
section
variable {P:aR} {L:Lib}
def ahr (nN:Has P L 301 qv) {w:AV} {vs:List Int} {f:Int} (hw:bg w vs) (gv:dg vs) {n M m:Nat} (lv:vs.length=n) (da:2<=n) (hnM:n<M) (Hg:M<=20000000000) (hm:m=M-n) (dT:0<vs.getD (n-1) 0) {U0:Nat}:
  ∀k st,(∃(j:Nat) (us qs:List Int),aV [8,9,10,11,12,13] st=⟨[(8,.ay 0 0 1),(9,w),(10,aa n),(11,.ay 1 0 M),(12,.ay 2 0 m),(13,aa ((j:Int)-1))],H3 qs us f,3,0⟩/\j=k/\j<=m/\us.length=M/\qs.length=m/\dg us/\dg qs/\(∀i,i<j->qs.getD i 0=0)/\
    dv us+dv qs*dv vs=U0/\dv (us.drop j)<dv vs)->
   ∃ex st',D P L (.loop [8,9,10,11,12,13] E2) st=some (ex,st')/\∃tm us qs,st'=⟨tm,H3 qs us f,3,0⟩/\ex= .exit 2/\ah tm 8= .ay 0 0 1/\ah tm 10=aa n/\ah tm 11= .ay 1 0 M/\ah tm 12= .ay 2 0 m/\us.length=M/\qs.length=m/\dg us/\dg qs/\
    dv us+dv qs*dv vs=U0/\dv us<dv vs:=by
 intro dq sq;generalize bz:aV [8,9,10,11,12,13] sq=s0;revert bz s0 sq dq;apply eb;rintro k st ⟨j,us,qs,rfl,rfl,hj,lu,lq,gu,gq,hz,aI,lQ⟩
 cases j with
 | zero=>
  right
  simp only [go_sem,ya,E2,H3,show ¬(0:Int)<=((0:Nat):Int)-1 by omega];exact ⟨_,_,rfl,by simp,_,us,qs,rfl,rfl,by simp only [go_sem,ya],by simp only [go_sem,ya],by simp only [go_sem,ya],by simp only [go_sem,ya],lu,lq,gu,gq,aI,by simpa using lQ⟩
 | succ j=>
  left
  obtain ⟨pre,dw⟩:∃p,p=us.take j:=⟨_,rfl⟩;obtain ⟨x,hx⟩:∃p,p=(us.drop j).take (n+1):=⟨_,rfl⟩;obtain ⟨post,eC⟩:∃p,p=us.drop (j+(n+1)):=⟨_,rfl⟩;have lp:pre.length=j:=by rw [dw,yQ];omega
  have lx:x.length=n+1:=by rw [hx,yQ,xJ];omega
  have Zs:M=pre.length+(n+1)+post.length:=by rw [lp,eC,xJ];omega
  have iK:us=pre++x++post:=by
   rw [dw,hx,eC,<-vh,xn,xI,xI]
  have gpo:dg post:=by
   have:=gu;rw [iK] at this;exact (fK.1 this).2
  have Zt:=by have:=gu;rw [iK] at this;exact (fK.1 this).1
  have gx:dg x:=(fK.1 Zt).2;have Oj:dg pre:=(fK.1 Zt).1;have hA:=ahp (l:=us) (i:=j) (by omega);have hgj:=fN gu j;have PT:us.drop j=x++post:=by rw [eC,hx,<-vh,xI]
  have rh:dv (us.drop j)=dv x+1000000000^(n+1)*dv post:=by rw [PT,kC,lx]
  have G3:=iy gv;rw [lv] at G3;have aO:dv (us.drop j)<1000000000*dv vs:=by omega
  have hp0:dv post=0:=by
   rcases xj (dv post) with e | e
   ·exact e
   ·have h1:=yO (1000000000^(n+1)) e;rw [yo,y9] at h1;rw [y9] at rh;omega
  rw [hp0,xz,yX] at rh;have Hi:=fun (l:List Int) (hl:dg l) (i:Nat)=>fN hl i
  obtain ⟨v1,dU⟩:∃v:Nat,vs.getD (n-1) 0=v:=⟨(vs.getD (n-1) 0).toNat,by have:=Hi vs gv (n-1);omega⟩;obtain ⟨v2,nf⟩:∃v:Nat,vs.getD (n-2) 0=v:=⟨(vs.getD (n-2) 0).toNat,by have:=Hi vs gv (n-2);omega⟩;obtain ⟨u0,zn⟩:∃v:Nat,x.getD n 0=v:=⟨(x.getD n 0).toNat,by have:=Hi x gx n;omega⟩;obtain ⟨u1,zo⟩:∃v:Nat,x.getD (n-1) 0=v:=⟨(x.getD (n-1) 0).toNat,by have:=Hi x gx (n-1);omega⟩;obtain ⟨u2,pq⟩:∃v:Nat,x.getD (n-2) 0=v:=⟨(x.getD (n-2) 0).toNat,by have:=Hi x gx (n-2);omega⟩;have hl:eO x vs n v1 v2 u0 u1 u2:=⟨da,by omega,lx,lv,gx,gv,dU,nf,zn,zo,pq,by omega,by rw [<-rh];exact aO⟩
  have J3:=hl.digit;have nW:0<dv vs:=by omega
  have oL:=xq (dv x) nW;obtain ⟨t,e1,Yd,Pk,ht3⟩:=al0 (P:=P) (L:=L) nN hw hl (pre:=pre) (post:=post) (qs:=qs) (f:=f) (M:=M) (by omega) (by omega);rw [<-iK,lp] at e1;have PV:dv us=dv pre+1000000000^j*dv x:=by
   have:=Mn us j (by omega)
   rw [rh,<-dw] at this;exact this
  have Ok:∀y,dv (pre++y++post)=dv pre+1000000000^j*dv y:=fun y=>by
   rw [xn,kC,kC,hp0,xz,yX,lp]
  have gM:=Sv (b:=0) PV aI;have pv:below 3 w:=nt hw.pu;have a6:=B0 (l:=qs) (i:=j) (x:=((dv x/dv vs:Nat):Int)) (by omega);have Zu:dg (qs.set j ((dv x/dv vs:Nat):Int)):=IY gq ⟨uL _,vP.2 J3⟩;rw [hz j (by omega),Int.sub_zero,p8 gq,p8 Zu] at a6;have a6:dv (qs.set j ((dv x/dv vs:Nat):Int))=dv qs+1000000000^j*(dv x/dv vs):=by
   have B8:((1000000000^j*(dv x/dv vs):Nat):Int)=(1000000000:Int)^j*((dv x/dv vs:Nat):Int):=by rw [vv];simp
   rw [<-B8] at a6;exact uE (by rw [tF,tF,a6,yan])
  have fin:∀(s':St) (x':List Int),aV [8,9,10,11,12,13] s'=⟨[(8,.ay 0 0 1),(9,w),(10,aa n),(11,.ay 1 0 M),(12,.ay 2 0 m),(13,aa ((j:Int)-1))],H3 (qs.set j ((dv x/dv vs:Nat):Int)) (pre++x'++post) f,3,0⟩->x'.length=n+1->dg x'->sv x'=((dv x%dv vs:Nat):Int)->
    ∃(j':Nat) (us qs:List Int),aV [8,9,10,11,12,13] s'=⟨[(8,.ay 0 0 1),(9,w),(10,aa n),(11,.ay 1 0 M),(12,.ay 2 0 m),(13,aa ((j':Int)-1))],H3 qs us f,3,0⟩/\j'=j/\j'<=m/\us.length=M/\qs.length=m/\dg us/\dg qs/\(∀i,i<j'->qs.getD i 0=0)/\dv us+dv qs*dv vs=U0/\dv (us.drop j')<dv vs:=fun s' x' hc PU KS G6=>by
   have Xq:dv x'=dv x%dv vs:=by rw [p8 KS] at G6;exact uE G6
   refine ⟨j,_,_,hc,rfl,by omega,by rw [lI,PU];omega,by simp [lq],fK.2 ⟨fK.2 ⟨Oj,KS⟩,gpo⟩,Zu,fun i hi=>by rw [U2 (by omega)];exact hz i (by omega),?_,?_⟩
   ·rw [Ok,Xq,a6];exact gM
   ·rw [xn,List.drop_left' lp,kC,hp0,xz,yX,Xq];exact oL
  have Xr:=fun (z:Int) (hp:Hp) (ct:Nat)=>zC (hp:=hp) (ct:=ct) (id:=2) (v:=z) (ex:=true) (l:=qs) (o:=j) (by omega)
  have svx:=p8 gx;have Zv:=p8 gv;simp only [H3] at e1;simp only [go_sem,ya,E2,H3,show ((j+1:Nat):Int)-1=(j:Int) by omega,show (0:Int)<=(j:Int) by omega,V6,e1];generalize kz:D P L (.loop [8,9,10,11,12,13,14,15,16] BU) _=qq;obtain ⟨ex,s,rfl,tm,bo,y,rfl,rfl,t8,t9,t10,t11,t12,t13,t14,t15,ly,gy,gT,hv⟩:=bP kz (ahl (P:=P) (L:=L) (x:=x) (pre:=pre) (post:=post) (qs:=qs) (f:=f) (m:=m) (M:=M) hw lv Zs (by omega) gv (t:=t) (by omega) n) ⟨0,0,x,by
   rw [iK,lp]
   simp only [go_sem,ya,yc,aA,aB hw.pu,aE _ hw.pu]<;>rfl,by omega,lx,gx,by omega,by simp [sv]⟩
  rw [lp] at t13;have hyn:=fN gy n;have Qh:=oC (l:=pre++y++post) (o:=pre.length+n) (by rw [lI];omega);rw [rZ (by omega),lp] at Qh;obtain ⟨z,Qi⟩:∃z,z=y.getD n 0-bo:=⟨_,rfl⟩;have Cd:=fun (hp:Hp) (ct:Nat)=>zC (hp:=hp) (ct:=ct) (id:=1) (v:=z) (ex:=false) (l:=pre++y++post) (o:=j+n) (by rw [lI];omega)
  have lP:=I4 (pre:=pre) (x:=y) (post:=post) (i:=n) z (by omega);rw [lp] at lP;rw [lP] at Cd;have kT:=B0 (l:=y) (i:=n) (x:=z) (by omega);have Jv:=ahq hv kT Qi;have zm:(y.set n z).length=n+1:=by simp [ly]
  have Bf:dg ((y.set n z).take n):=by
   have:(y.set n z).take n=y.take n:=by rw [uU,uT (by simp;omega)]
   rw [this];exact zS gy n
  rw [svx,Zv] at Jv;obtain ⟨s0,s1⟩:=aho nW zm Bf Jv Pk ht3;have eg:(y.set n z).getD n 0=z:=adi (by omega);rw [eg] at s0 s1;have Qj:=oC (l:=pre++y.set n z++post) (o:=pre.length+n) (by rw [lI];omega);rw [rZ (by omega),lp,eg] at Qj;generalize y.set n z=y1 at*
  have hpn:((10^9:Int))=1000000000:=by decide
  by_cases gh:z<0
  ·obtain ⟨f1,f2⟩:=s1 gh
   simp only [go_sem,ya,yc,yo,aA,aB hw.pu,aE _ hw.pu,t8,t9,t10,t11,t12,t13,t14,t15,show (j:Int)+(n:Int)=((j+n:Nat):Int) from rfl,wrapN (n:=j+n) (by omega),cK 1 0 (show j+n<M by omega),yj,Qh,<-Qi,wrap64 (n:=z) (by omega) (by omega),Cd,Qj,gh];generalize AN:D P L (.loop [8,9,10,11,12,13,14,19,20] E1) _=PO;obtain ⟨ex,s,rfl,oP,c,y2,rfl,rfl,t8,t9,t10,t11,t12,t13,t14,t19,PQ,KQ,Wb,hc,cZ⟩:=bP AN (ahn (P:=P) (L:=L) (y0:=y1) (pre:=pre) (post:=post) (qs:=qs) (f:=f) (m:=m) (M:=M) (t:=(t:Int)-1) (top:=z) hw lv Zs (by omega) gv n) ⟨0,0,y1,by
    rw [lp,wrap64 (n:=(t:Int)-1) (by omega) (by omega)]
    simp only [go_sem,ya,yc,aA,aB hw.pu,aE _ hw.pu]<;>rfl,by omega,zm,Bf,eg,by omega,by simp [sv]⟩
   rw [lp] at t13;have Xs:=oC (l:=pre++y2++post) (o:=pre.length+n) (by rw [lI];omega);rw [rZ (by omega),lp,Wb] at Xs;have JZ:=fun (hp:Hp) (ct:Nat)=>zC (hp:=hp) (ct:=ct) (id:=1) (v:=z+c) (ex:=false) (l:=pre++y2++post) (o:=j+n) (by rw [lI];omega)
   have Jm:=I4 (pre:=pre) (x:=y2) (post:=post) (i:=n) (z+c) (by omega);rw [lp] at Jm;rw [Jm] at JZ;have qU:=B0 (l:=y2) (i:=n) (x:=z+c) (by omega);rw [Wb,show z+c-z=c by omega,cZ,Zv,f2] at qU;have G4:(y2.set n (z+c)).length=n+1:=by simp [PQ]
   have KR:dg ((y2.set n (z+c)).take n):=by
    have:(y2.set n (z+c)).take n=y2.take n:=by rw [uU,uT (by simp;omega)]
    rw [this];exact KQ
   have Qk:((dv x%dv vs:Nat):Int)<1000000000^n:=by
    have B8:((1000000000^n:Nat):Int)=(1000000000:Int)^n:=by simp
    rw [<-B8];omega
   obtain ⟨g1,g2,g3⟩:=TB G4 KR (by rw [qU];omega) (by rw [qU];exact Qk)
   generalize y2.set n (z+c)=y3 at*
   have ft:(t:Int)-1=((dv x/dv vs:Nat):Int):=by rw [f1];omega
   simp only [go_sem,ya,yc,yo,aA,aB hw.pu,aE _ hw.pu,t8,t9,t10,t11,t12,t13,t14,t19,show (j:Int)+(n:Int)=((j+n:Nat):Int) from rfl,wrapN (n:=j+n) (by omega),cK 1 0 (show j+n<M by omega),yj,Xs,wrap64 (n:=z+c) (by omega) (by omega),JZ,cK 2 0 (show j<m by omega),Xr];rw [ft];refine ⟨_,j,rfl,by omega,fin _ y3 ?_ G4 g2 qU⟩;rw [wrap64 (by omega) (by omega)];simp only [go_sem,ya,yc,aA,aB hw.pu,aE _ hw.pu]<;>rfl
  ·obtain ⟨f1,f2⟩:=s0 gh;have Qk:((dv x%dv vs:Nat):Int)<1000000000^n:=by
    have B8:((1000000000^n:Nat):Int)=(1000000000:Int)^n:=by simp
    rw [<-B8];omega
   obtain ⟨g1,g2,g3⟩:=TB zm Bf (by rw [f2];omega) (by rw [f2];exact Qk)
   simp only [go_sem,ya,yc,yo,aA,aB hw.pu,aE _ hw.pu,t8,t9,t10,t11,t12,t13,t14,t15,show (j:Int)+(n:Int)=((j+n:Nat):Int) from rfl,wrapN (n:=j+n) (by omega),cK 1 0 (show j+n<M by omega),yj,Qh,<-Qi,wrap64 (n:=z) (by omega) (by omega),Cd,Qj,gh,cK 2 0 (show j<m by omega),Xr];rw [f1];refine ⟨_,j,rfl,by omega,fin _ y1 ?_ zm g2 f2⟩;rw [wrap64 (by omega) (by omega)];simp only [go_sem,ya,yc,aA,aB hw.pu,aE _ hw.pu]<;>rfl
def akx (h:Has P L 292 qu) {n:Nat} (hn:n<1000000000):ai P L 292 [aa n,aa 9] (.str (gg 9 n)):=by
 have key:=gW (P:=P) (L:=L) (live:=[0,1,5]) (a:=lF)
  (I:=fun k st=>∃(m:Nat) (s:List Nat),st=⟨[(0,aa m),(1,aa 9),(5,.str s)],[],0,0⟩/\s.length+k=9/\m<10^k/\gg 9 n=gg k m++s)
  (Q:=fun ex st=>∃tm ct,st=⟨tm,[],ct,0⟩/\ex= .exit 0/\ah tm 5= .str (gg 9 n)) ?_
 ·unfold ai;rw [aK h];simp only [go_sem,qu];generalize hq:D P L (.loop [0,1,5] lF) _=q;obtain ⟨ex,st,rfl,tm,ct,rfl,rfl,h2⟩:=bP hq (key 9) ⟨n,[],by simp only [go_sem,ya,aA]<;>rfl,rfl,by omega,by simp⟩
  simp only [go_sem,aA,h2]
 ·rintro k st ⟨m,s,rfl,hk,hm,hs⟩
  cases k with
  | zero=>
   right
   have Zf:m=0:=by simpa using hm
   subst Zf;simp only [go_sem,ya,lF,show ¬(0:Int)<((0:Nat):Int) by omega,show ¬((s.length:Nat):Int)<9 by omega];refine ⟨_,_,rfl,by simp,_,_,rfl,rfl,?_⟩;rw [hs];rfl
  | succ k=>
   left
   have hr:((m:Int)).tmod 10=((m%10:Nat):Int):=by rw [xQ (by omega)];rfl
   have hq:((m:Int)).tdiv 10=((m/10:Nat):Int):=by rw [xM (by omega)];rfl
   have hd:=Ry (r:=m%10) (by omega);have Gy:m<10000000000:=yR hm (by simpa using xA (show 0<10 by decide) (show k+1<=10 by omega));have fin:∃s',D P L lF ⟨[(0,aa m),(1,aa 9),(5,.str s)],[],0,0⟩=some (.normal,s')/\aV [0,1,5] s'=⟨[(0,aa (m/10:Nat)),(1,aa 9),(5,.str ([48+m%10]++s))],[],0,0⟩:=by
    by_cases hc:(0:Int)<m
    ·simp only [go_sem,ya,yc,lF,hc,gC _ _ _ (show (10:Int)≠0 by decide),e9 _ _ _ (show (10:Int)≠0 by decide),hr,hq,wrapN (n:=m%10+1) (by omega),wrap64 (n:=((m/10:Nat):Int)) (by omega) (by omega),dK,c7,show ((m%10:Nat):Int)+1=((m%10+1:Nat):Int) from rfl,hd,fc (a:=[48+m%10]) (b:=s) (by simp;omega)];exact ⟨_,rfl,by simp only [go_sem,ya,aA]⟩
    ·simp only [go_sem,ya,yc,lF,hc,show ((s.length:Nat):Int)<9 by omega,gC _ _ _ (show (10:Int)≠0 by decide),e9 _ _ _ (show (10:Int)≠0 by decide),hr,hq,wrapN (n:=m%10+1) (by omega),wrap64 (n:=((m/10:Nat):Int)) (by omega) (by omega),dK,c7,show ((m%10:Nat):Int)+1=((m%10+1:Nat):Int) from rfl,hd,fc (a:=[48+m%10]) (b:=s) (by simp;omega)];exact ⟨_,rfl,by simp only [go_sem,ya,aA]⟩
   obtain ⟨s',f1,f2⟩:=fin;exact ⟨s',k,f1,by omega,m/10,_,f2,by simp;omega,by rw [y9] at hm;omega,by rw [hs];simp [gg]⟩
end
def last_pos {l:List Int} (hd:dg l) (hn:nz l) (h:0<l.length):0<l.getD (l.length-1) 0:=by
 rcases snoc l with rfl | ⟨m,a,rfl⟩
 ·grind
 ·have e:(m++[a]).getD ((m++[a]).length-1) 0=a:=by simp_all
  have ha:=jx.1 (fK.1 hd).2;by_cases h0:a=0
  ·subst h0
   have:=H0 m
   have e:=congrArg List.length hn;rw [Eb] at e
   grind
  ·omega
section
variable {P:aR} {L:Lib}
def aky (nM:Has P L 292 qu) {neg:Bool} {w:AV} {l:List Int} (hw:bg w l) (hd:dg l) (hn:nz l) (hl:l.length<=20000000000):
  ∀k s,(∃(j:Nat) (t:List Nat),aV [1,3,4] s=⟨[(1,.ptr 0 0),(3,.str t),(4,aa ((j:Int)-1))],[(0,.cells true true true 2 [.bool neg,w])],1,0⟩/\j=k/\j<l.length/\0<dv (l.drop j)/\t=aw (dv (l.drop j))/\t.length<=9*(l.length-j))->
   ∃ex s',D P L (.loop [1,3,4] EZ) s=some (ex,s')/\∃tm,s'=⟨tm,[(0,.cells true true true 2 [.bool neg,w])],1,0⟩/\ex= .exit 0/\ah tm 1= .ptr 0 0/\ah tm 3= .str (aw (dv l))/\(aw (dv l)).length<=180000000000:=by
 intro dq sq;generalize bz:aV [1,3,4] sq=s0;revert bz s0 sq dq;apply eb;rintro k s ⟨j,t,rfl,rfl,hj,sP,ht,Qb⟩
 cases j with
 | zero=>
  right
  rw [yy] at ht;simp only [go_sem,ya,EZ,show ¬(0:Int)<=((0:Nat):Int)-1 by omega];exact ⟨_,_,rfl,by simp,_,rfl,rfl,by simp only [go_sem,ya],by rw [<-ht];simp only [go_sem,ya],by rw [<-ht];omega⟩
 | succ i=>
  left
  have hi:i<l.length:=by omega
  obtain ⟨x,hx⟩:∃x,x=l.getD i 0:=⟨_,rfl⟩;have e1:=nI hw hi;have gx:=fN hd i;rw [<-hx] at e1 gx;obtain ⟨m,rfl⟩:∃m:Nat,x=m:=⟨x.toNat,by omega⟩;have e2:=akx nM (n:=m) (by omega);unfold ai at e2;have hlp:=Mj 9 m;have gS:dv (l.drop i)=dv (l.drop (i+1))*10^9+m:=by
   have:l.drop i=(m:Int)::l.drop (i+1):=by
    rw [yP hi,hx];simp [y7,xh hi]
   rw [this];simp only [dv,wm];omega
  have anT:aw (dv (l.drop i))=t++gg 9 m:=by
   rw [gS,Im 9 _ m sP (by omega),ht]
  simp only [go_sem,ya,EZ,show ((i+1:Nat):Int)-1=(i:Int) by omega,show (0:Int)<=(i:Int) by omega,bL,yj,cB,e1,e2,fc (a:=t) (b:=gg 9 m) (by omega)];refine ⟨_,i,rfl,by omega,i,t++gg 9 m,?_,rfl,by omega,by omega,anT.symm,by simp;omega⟩;rw [wrap64 (by omega) (by omega)];simp only [go_sem,ya,yc,aA]<;>rfl
def Xt (h:Has P L 282 FQ) (nM:Has P L 292 qu) {v:AV} {n:Int} {K:Nat} (hK:K<=18000000000) (hv:iZ v n) (hn:n.natAbs<1000000000^K):ai P L 282 [v] (.str (aS n))/\(aS n).length<=180000000001:=by
 obtain ⟨w,l,rfl,hw,hd,hz,nk⟩:=hv;have hl:=xi (hJ hd hz (by rw [nk];exact hn)) hK
 by_cases h0:l=[]
 ·subst h0;have sX:n=0:=by simp [dv] at nk;omega
  subst sX;refine ⟨?_,by decide⟩;unfold ai;rw [aK h];simp only [go_sem,ya,yc,FQ,aZ,hw.len,hw.pu,hw.one,bL,yj,cB,yM,show ((0:Nat):Int)=(0:Int) from rfl,yJ];rfl
 ·have sP:0<l.length:=uA.2 h0;obtain ⟨x,hx⟩:∃x,x=l.getD (l.length-1) 0:=⟨_,rfl⟩;have e1:=nI hw (show l.length-1<l.length by omega);have gx:=fN hd (l.length-1);have gp:=last_pos hd hz sP;rw [<-hx] at e1 gx gp;obtain ⟨m,rfl⟩:∃m:Nat,x=m:=⟨x.toNat,by omega⟩;have e2:=Od nM (n:=m) (by omega);have gS:dv (l.drop (l.length-1))=m:=by
   rw [yP (show l.length-1<l.length by omega),xa (by omega)]
   have:l[l.length-1]=(m:Int):=by rw [hx];simp [y7,xh (show l.length-1<l.length by omega)]
   simp [dv,this]
  have h9:(aw m).length<=9:=oc (k:=8) (by omega);have fin:∀neg:Bool,bA P L (D P L) 282 [.agg [.bool neg,w]]=some (.str ((if neg=true then [45] else [])++aw (dv l)))/\(aw (dv l)).length<=180000000000:=fun neg=>by
   rw [aK h]
   simp only [go_sem,ya,yc,FQ,aZ,hw.len,hw.pu,hw.one,bL,yj,cB,show ¬(l.length:Int)=0 by omega,show (l.length:Int)-1=((l.length-1:Nat):Int) by omega,wrapN (n:=l.length-1) (by omega),e1,e2];generalize hq:D P L (.loop [1,3,4] EZ) _=q;obtain ⟨ex,s,rfl,tm,rfl,rfl,t1,t3,hlen⟩:=bP hq (aky (P:=P) (L:=L) nM (neg:=neg) hw hd hz (by omega) (l.length-1)) ⟨l.length-1,aw m,by
    rw [show (l.length:Int)-2=((l.length-1:Nat):Int)-1 by omega,wrap64 (by omega) (by omega)]
    simp only [go_sem,ya,yc,aA]<;>rfl,rfl,by omega,by rw [gS];omega,by rw [gS],by omega⟩
   refine ⟨?_,hlen⟩
   cases neg with
   | true=>
    simp only [go_sem,ya,aA,t1,t3,bL,yj,fc (a:=[45]) (b:=aw (dv l)) (by simp;omega),xm]
   | false=>
    simp only [go_sem,ya,aA,t1,t3,bL,yj];rfl
  obtain ⟨f1,f2⟩:=fin (decide (n<0));rw [nk] at f1 f2;simp only [vl] at f1;rw [lk] at f1;refine ⟨f1,?_⟩;rw [<-lk]
  split<;>simp<;>omega
structure Rb (P:aR) (L:Lib):Prop where
 anU:Has P L 262 FL
 sH:Has P L 272 FP
 Xu:Has P L 274 JK
 Xv:Has P L 275 JL
 anV:Has P L 277 AI
 anW:Has P L 280 lO
 anX:Has P L 281 N4
 Xw:Has P L 282 FQ
 Xx:Has P L 288 JP
 Gj:Has P L 289 oF
 qB:Has P L 290 Cn
 Oe:Has P L 291 FT
 nM:Has P L 292 qu
 km:Has P L 293 sC
 iQ:Has P L 294 sD
 OK:Has P L 295 FU
 lT:Has P L 296 oG
 Xy:Has P L 298 JQ
 mQ:Has P L 299 sE
 cC:Has P L 300 jI
 kP:Has P L 302 oH
structure Ras (P:aR) (L:Lib):Prop extends Rb P L where
 Xz:Has P L 264 FM
 anY:Has P L 268 FN
 anZ:Has P L 271 N3
 an0:Has P L 276 mN
 ON:Has P L 278 JM
 an1:Has P L 279 Cm
 Kb:Has P L 297 FV
def ahs {v w:AV} {a vs:List Int} {f:Int} (hv:bg v a) (hw:bg w vs) {n:Nat} (la:a.length<=9000000000) {A:Nat}:
  ∀k st,(∃us:List Int,aV [0,8,9,10,11] st=⟨[(0,v),(8,.ay 0 0 1),(9,w),(10,aa n),(11,.ay 1 0 us.length)],[(1,.cells true true false 1 (us.map aa)),(0,.cells false true true 1 [aa f])],2,0⟩/\us.length+k=a.length+1/\dg us/\dv us=A)->
   ∃ex st',D P L (.loop [0,8,9,10,11] E0) st=some (ex,st')/\∃tm us,st'=⟨tm,[(1,.cells true true false 1 (us.map aa)),(0,.cells false true true 1 [aa f])],2,0⟩/\ex= .exit 0/\ah tm 8= .ay 0 0 1/\ah tm 9=w/\ah tm 10=aa n/\ah tm 11= .ay 1 0 (a.length+1)/\us.length=a.length+1/\dg us/\dv us=A:=by
 intro dq sq;generalize bz:aV [0,8,9,10,11] sq=s0;revert bz s0 sq dq;apply eb;rintro k st ⟨us,rfl,hk,gu,aI⟩;have ea:((a.length:Nat):Int)+1=((a.length+1:Nat):Int):=rfl;by_cases hi:us.length<a.length+1
 ·left
  simp only [go_sem,ya,yc,yt,yo,E0,hv.len,ea,wrapN (n:=a.length+1) (by omega),show ((us.length:Nat):Int)<((a.length+1:Nat):Int) by omega]
  rw [iq (ex:=false) (pu:=true) (cs:=us.map aa) (by simp only [go_sem,ya]) (by simp) (by omega) (by omega) (by decide) (by simp only [go_sem])];refine ⟨_,k-1,rfl,by omega,us++[0],?_,by simp;omega,fK.2 ⟨gu,jx.2 (by decide)⟩,by rw [kC];simp [dv,aI]⟩;rw [xx,yU];simp only [go_sem,ya,yc,aA,aB hv.pu,aE _ hv.pu,aB hw.pu,aE _ hw.pu]<;>rfl
 ·right
  have hl:us.length=a.length+1:=by omega
  rw [hl]
  simp only [go_sem,ya,E0,hv.len,ea,wrapN (n:=a.length+1) (by omega),show ¬((a.length+1:Nat):Int)<((a.length+1:Nat):Int) by omega];exact ⟨_,_,rfl,by simp,_,us,rfl,rfl,by simp only [go_sem,ya],by simp only [go_sem,ya],by simp only [go_sem,ya],by simp only [go_sem,ya],hl,gu,aI⟩
end
def U3:∀l:List Int,cd (l.map aa)=true
 | []=>rfl
 | a::r=>by rw [yW,So,U3 r];rfl
def U4:∀l:List Int,aC (l.map aa)=true
 | []=>rfl
 | a::r=>by rw [yW,aC,U4 r];rfl
def aht {hp:Hp} {ct:Nat} {e:Bool} {us:List Int} {o:Obj} (h:us.length<=100000000000):
  sG ((1,.cells true true true 1 [])::(0,o)::hp) ct 1 8 (.ay 1 0 0) (jt ((1,.cells true true true 1 [])::(0,o)::hp) 1 (.aq e us.length (us.map aa)))=some (.ay ct 0 us.length,(ct,.cells true true false 1 (us.map aa))::dc ((1,.cells true true true 1 [])::(0,o)::hp) 1,ct+1):=by
 have h1:jt ((1,.cells true true true 1 [])::(0,o)::hp) 1 (.aq e us.length (us.map aa))=some (us.length,us.map aa):=by
  simp [jt]
 rw [h1,iq (cs:=[]) (pu:=true) (ex:=true) rfl (by simp) (by omega) (by omega) (by decide) (U3 us),U4,yj];rfl
def akz {l:List Int} (hd:dg l) (hn:nz l) (h:0<l.length):1000000000^(l.length-1)<=dv l:=Jg hn hd (fun e=>by subst e;simp at h)
def afp {n top f V:Nat} (hf:f=1000000000/(top+1)) (ht0:0<top) (ht:top<1000000000) (h1:V<1000000000^(n-1)*(top+1)) (hn:0<n):0<f/\f<1000000000/\V*f<1000000000^n:=by
 have h2:f*(top+1)<=1000000000:=by rw [hf];exact Nat.div_mul_le_self _ _
 have h3:0<f:=by rw [hf];exact Nat.div_pos (by omega) (by omega)
 refine ⟨h3,?_,?_⟩
 ·have:=yO f (show 2<=top+1 by omega)
  omega
 ·have e1:=wz h1 h3;have e2:=yO (1000000000^(n-1)) h2;rw [<-y9,show (n-1).succ=n by omega] at e2
  grind
section
variable {P:aR} {L:Lib}
def akA (h:Has P L 289 oF) (km:Has P L 293 sC) (mQ:Has P L 299 sE) (cC:Has P L 300 jI) (nN:Has P L 301 qv) {v w:AV} {a b:List Int} (hv:bg v a) (hw:bg w b) (ha:dg a) (hb:dg b) (na:nz a) (nb:nz b) (la:a.length<=8000000000) (lb:2<=b.length) (ec:ai P L 296 [v,w] (aa (df (dv a) (dv b)))) (hc:dv b<=dv a):
  ∃q r lq lr,ai P L 289 [v,w] (.av [q,r])/\bg q lq/\bg r lr/\dg lq/\nz lq/\dg lr/\nz lr/\dv lq=dv a/dv b/\dv lr=dv a%dv b:=by
 have dE:¬df (dv a) (dv b)<0:=by unfold df;rw [yE (by omega)];split<;>decide
 have al1:=akz hb nb (by omega);have hba:b.length<=a.length:=by
  have:=iy ha
  have h1:1000000000^(b.length-1)<1000000000^a.length:=by omega
  have:=(uZ (show 1<1000000000 by decide)).1 h1
  omega
 obtain ⟨n,hn⟩:∃n,n=b.length:=⟨_,rfl⟩;have an2:=fN hb (n-1);have nH:=last_pos hb nb (by omega);rw [<-hn] at nH;obtain ⟨top,lQ⟩:∃v:Nat,b.getD (n-1) 0=v:=⟨(b.getD (n-1) 0).toNat,by omega⟩;have XA:=nI hw (i:=n-1) (by omega);rw [lQ] at an2 nH XA;have hbt:=mz (l:=b) (n-1);rw [show n-1+1=n by omega,yD (by omega),lQ,wm] at hbt;have al2:=iy (zS hb (n-1));rw [yQ,xO (by omega)] at al2;obtain ⟨f,hf⟩:∃f,f=1000000000/(top+1):=⟨_,rfl⟩;obtain ⟨Bp,Zw,hfV⟩:=afp (n:=n) (V:=dv b) hf (by omega) (by omega) (by rw [xt,yo];omega) (by omega);have Zx:bg (.aq true 1 [aa f]) [(f:Int)]:=ju true [(f:Int)];have gf:dg [(f:Int)]:=jx.2 (by omega);have vf:dv [(f:Int)]=f:=by simp [dv]
 obtain ⟨v',vs,e1,dN,hsv,Bh,G7,pw⟩:=OI km cC hw Zx hb gf (by omega) (by simp);obtain ⟨u',zD,e2,gU,Bb,CZ,nus,Hj⟩:=OI km cC hv Zx ha gf (by omega) (by simp);rw [vf] at pw Hj;have nW:0<dv b:=by have:=Nat.pow_pos (n:=b.length-1) (show 0<1000000000 by decide);omega
 have ri:vs.length=n:=by
  have h1:vs.length<=n:=hJ Bh G7 (by rw [pw];exact hfV)
  have h2:dv b<=dv vs:=by rw [pw];exact Nat.le_mul_of_pos_right _ Bp
  have h3:=iy Bh;have h4:1000000000^(n-1)<1000000000^vs.length:=by rw [hn];omega
  have:=(uZ (show 1<1000000000 by decide)).1 h4
  omega
 have KT:zD.length<=a.length+1:=by
  refine hJ CZ nus ?_;rw [Hj,y9];exact Nat.mul_lt_mul'' (iy ha) Zw
 have XB:0<zD.length:=by
  rcases xj zD.length with e | e
  ·have h1:0<dv a*f:=yaS (by omega) Bp;rw [yA e] at Hj;simp only [dv] at Hj;omega
  ·exact e
 have dT:0<vs.getD (n-1) 0:=by
  have:=last_pos Bh G7 (by omega)
  rwa [ri] at this
 obtain ⟨m,hm⟩:∃m,m=a.length+1-n:=⟨_,rfl⟩;have b6:∀ct:Nat,qw ct 1 8 [.int .i64 0] (some m) (some m)=some (.ay ct 0 m,.cells true true true 1 ((yC m (0:Int)).map aa)):=fun ct=>by
  rw [E8 (sz:=1) (by omega) (by omega) (by rfl) (by rfl),Lz];rfl
 obtain ⟨e,rfl⟩:∃e,u'= .aq e zD.length (zD.map aa):=by
  rcases gU with ⟨rfl,h0⟩ | ⟨e,rfl⟩
  ·rw [List.map_eq_nil_iff] at h0;rw [h0] at XB;simp at XB
  ·exact ⟨e,by rw [xc]⟩
 have NC:∀us:List Int,us.length=a.length+1->dv us=dv a*f->dv (us.drop m)<dv vs:=fun us hl hd=>by
  have e1:=Mn us m (by omega);have e2:=iy ha;have e3:=wz e2 Bp;have e4:1000000000^a.length=1000000000^m*1000000000^(n-1):=by rw [<-Nat.pow_add];congr 1;omega
  rw [<-hd,e4,xf] at e3;have e5:1000000000^m*dv (us.drop m)<1000000000^m*(1000000000^(n-1)*f):=by omega
  refine yR (Nat.lt_of_mul_lt_mul_left e5) ?_;rw [pw,hn];exact yS _ al1
 have gN:∃us qs,(us.length=a.length+1/\qs.length=m/\dg us/\dg qs/\dv us+dv qs*dv vs=dv a*f/\dv us<dv vs)/\
   ∃q1 r1 lr,bg q1 (dn qs)/\bg r1 lr/\dg lr/\nz lr/\dv lr=dv (us.take n)/f/\ai P L 289 [v,w] (.av [q1,r1]):=by
  unfold ai at ec e1 e2;unfold ai;rw [aK h];have Gb:IntKind.wrap .i64 ((1000000000:Int).tdiv ((top+1:Nat):Int))=(f:Int):=by
   rw [xM (by decide),show (1000000000:Int)/((top+1:Nat):Int)=((1000000000/(top+1):Nat):Int) from rfl,<-hf,wrap64 (by omega) (by omega)]
  simp only [go_sem,ya,yc,yz,yt,yo,oF,hv.ak,hw.len,hw.ak,ec,dE,show ¬(n:Int)=1 by omega,<-hn,show (n:Int)-1=((n-1:Nat):Int) by omega,wrapN (n:=n-1) (by omega),XA,show ((top:Nat):Int)+1=((top+1:Nat):Int) from rfl,wrapN (n:=top+1) (by omega),e9 _ _ _ (show ((top+1:Nat):Int)≠0 by omega),Gb,e1,hsv,dN.len,ri,e2,Bb,aht (us:=zD) (e:=e) (by omega)];generalize bz:D P L (.loop [0,8,9,10,11] E0) _=q0;obtain ⟨ex,st,rfl,tm,us,rfl,rfl,t8,t9,t10,t11,lu,gu,vu⟩:=bP bz (ahs (P:=P) (L:=L) (f:=(f:Int)) (n:=n) (A:=dv a*f) hv dN (by omega) (a.length+1-zD.length)) ⟨zD,by
   simp only [go_sem,ya,yc,aA,aB hv.pu,aE _ hv.pu,aB dN.pu,aE _ dN.pu]<;>rfl,by omega,CZ,Hj⟩
  have em:((a.length+1:Nat):Int)-(n:Int)=(m:Int):=by omega
  have em1:(m:Int)-1=((m-1:Nat):Int):=by omega
  simp only [go_sem,ya,yc,aA,aB dN.pu,aE _ dN.pu,t8,t9,t10,t11,em,wrapN (n:=m) (by omega),b6,em1,wrapN (n:=m-1) (by omega)];generalize eD:D P L (.loop [8,9,10,11,12,13] E2) _=q1;obtain ⟨ex,st,rfl,oP,zE,qs,rfl,rfl,t8,t10,t11,t12,lu1,Hb,Zy,gq1,aI,aO⟩:=bP eD (ahr (P:=P) (L:=L) nN (f:=(f:Int)) dN Bh ri (by omega) (show n<a.length+1 by omega) (by omega) (by omega) dT (U0:=dv a*f) m) ⟨m,us,yC m 0,by
   rw [show ((m-1:Nat):Int)=(m:Int)-1 by omega]
   simp only [go_sem,ya,yc,aA,aB dN.pu,aE _ dN.pu]<;>rfl,rfl,yv _,lu,by simp,gu,Tc m,fun i _=>RI m i,by rw [Tb,Nat.zero_mul,yX,vu],NC us lu vu⟩
  have jL:∀(hp:Hp) tm (y:X),ap hp 1=some (.cells true true false 1 (zE.map aa))->cL tm (a.length+1) (some y)=some n->eB hp (.sl 1) (.ay 1 0 (a.length+1)) tm none (some y)=some (.ay 1 0 n):=fun hp tm y h1 h2=>Tl h1 h2 (by omega) (by omega)
  obtain ⟨e',G9⟩:∃e',∀hp:Hp,jK 0 n (some (false,1,zE.map aa,hp))=some (.aq e' n ((zE.take n).map aa),hp):=by
   refine ⟨false&&Nat.blt 0 1&&Nat.beq n (zE.map aa).length,fun hp=>?_⟩;simp only [jK,yj,yo,slice,yy,<-List.map_take];rw [Nat.ble_eq_true_of_le (by simp;omega)];rfl
  have ltk:(zE.take n).length=n:=by rw [yQ];omega
  have fG:=ju e' (zE.take n);rw [ltk] at fG;obtain ⟨r0,f1,me,an3⟩:=sI cC fG (by omega);obtain ⟨r1,lr,f2,dC,arK,al3,dr,nr,vr⟩:=Xp mQ cC me (rF (zS Zy n)) (by have:=H0 (zE.take n);omega) Bp Zw;have G8:=ju true qs;rw [Hb] at G8;obtain ⟨q1,f3,eD,an4⟩:=sI cC G8 (by omega);rw [pH] at vr;unfold ai at f1 f2 f3;refine ⟨zE,qs,⟨lu1,Hb,Zy,gq1,aI,aO⟩,q1,r1,lr,eD,dC,dr,nr,vr,?_⟩;have mg:iv 1 0 (AV.ay 0 0 1)=some (.ptr 0 0):=cK 0 0 (show 0<1 by omega)
  simp only [go_sem,ya,yc,aA,t8,t10,t11,t12,jL,c7,G9,f1,an3,me.ak,mg,f2,al3,fun hp=>ll (hp:=hp) (k:=m) (sz:=1) (cs:=qs.map aa) true (by simp [Hb]) (by decide),f3,an4];rcases eD with ⟨rfl,_⟩ | ⟨_,rfl⟩<;>rcases dC with ⟨rfl,_⟩ | ⟨_,rfl⟩<;>rfl
 obtain ⟨us,qs,⟨lu,lq,gu,gq,aI,aO⟩,q1,r1,lr,eD,dC,dr,nr,vr,e⟩:=gN;rw [pw] at aI aO;have Gb:dv qs=dv a/dv b:=by
  rw [<-Nat.mul_div_mul_right _ _ Bp,<-aI,yag,xv,Nat.mul_add_div (yaS nW Bp),wa aO,yX]
 have KV:dv us=(dv a%dv b)*f:=by
  rw [<-Nat.mul_mod_mul_right,<-aI,yag,xv (dv qs),Nat.mul_add_mod,yN aO]
 have iK:=Mn us n (by omega);have fU:dv (us.drop n)=0:=by
  rcases xj (dv (us.drop n)) with h0 | h0
  ·exact h0
  ·have:=yO (1000000000^n) h0
   omega
 rw [fU,xz,yX] at iK;rw [<-iK,KV,Nat.mul_div_cancel _ Bp] at vr;exact ⟨q1,r1,_,lr,e,eD,dC,rF gq,BG _,dr,nr,by rw [pH,Gb],vr⟩
def Wc (h:Has P L 289 oF) (km:Has P L 293 sC) (lT:Has P L 296 oG) (mQ:Has P L 299 sE) (cC:Has P L 300 jI) (nN:Has P L 301 qv) {v w:AV} {a b:List Int} (hv:bg v a) (hw:bg w b) (ha:dg a) (hb:dg b) (na:nz a) (nb:nz b) (la:a.length<=8000000000) (lb:b.length<=8000000000) (h0:0<dv b):
  ∃q r lq lr,ai P L 289 [v,w] (.av [q,r])/\bg q lq/\bg r lr/\dg lq/\nz lq/\dg lr/\nz lr/\dv lq=dv a/dv b/\dv lr=dv a%dv b:=by
 by_cases hl:b.length<=1
 ·exact anN h lT mQ cC hv hw ha hb na nb (by omega) hl h0
 have ec:=OH lT hv hw ha hb na nb (by omega) (by omega);by_cases hc:dv a<dv b
 ·unfold ai at ec;have dE:df (dv a) (dv b)= -1:=by unfold df;rw [yT hc]
  rw [dE] at ec;refine ⟨.af,v,[],a,?_,zN,hv,rfl,rfl,ha,na,?_,?_⟩
  ·unfold ai;rw [aK h];simp only [go_sem,ya,oF,hv.ak,hw.ak,ec,show (-1:Int)<0 by decide];rcases hv with ⟨rfl,_⟩ | ⟨e,rfl⟩<;>rfl
  ·rw [wa hc];rfl
  ·rw [yN hc]
 ·exact akA h km mQ cC nN hv hw ha hb na nb la (by omega) ec (by omega)
def We (h:Has P L 275 JL) (Gj:Has P L 289 oF) (km:Has P L 293 sC) (lT:Has P L 296 oG) (mQ:Has P L 299 sE) (cC:Has P L 300 jI) (nN:Has P L 301 qv) {v w:AV} {a b:List Int} (hv:bg v a) (hw:bg w b) (ha:dg a) (hb:dg b) (na:nz a) (nb:nz b) (la:a.length<=8000000000) (lb:b.length<=8000000000):
  ∃r l,ai P L 275 [v,w] r/\bg r l/\dg l/\nz l/\dv l=we (dv a) (dv b):=by
 have key:=gW (P:=P) (L:=L) (live:=[0,1]) (a:=EY)
  (I:=fun k st=>∃x y lx ly,st=⟨[(0,x),(1,y)],[],0,0⟩/\bg x lx/\bg y ly/\dg lx/\nz lx/\dg ly/\nz ly/\lx.length<=8000000000/\ly.length<=8000000000/\dv ly=k/\we (dv lx) (dv ly)=we (dv a) (dv b))
  (Q:=fun ex st=>∃tm ct,st=⟨tm,[],ct,0⟩/\ex= .exit 0/\∃x lx,ah tm 0=x/\bg x lx/\dg lx/\nz lx/\dv lx=we (dv a) (dv b)) ?_
 ·unfold ai;rw [aK h];simp only [go_sem,JL];generalize hq:D P L (.loop [0,1] EY) _=q;obtain ⟨ex,st,rfl,tm,ct,rfl,rfl,x,lx,h2,hx,dx,nx,vx⟩:=bP hq (key (dv b)) ⟨v,w,a,b,by simp only [go_sem,ya,aA,aB hv.pu,aE _ hv.pu,aB hw.pu,aE _ hw.pu]<;>rfl,hv,hw,ha,na,hb,nb,la,lb,rfl,rfl⟩
  refine ⟨x,lx,?_,hx,dx,nx,vx⟩;simp only [go_sem,aA,h2,hx.eT,aB hx.pu,aE _ hx.pu]
 ·rintro k st ⟨x,y,lx,ly,rfl,hx,hy,dx,nx,dy,ny,llx,Zz,rfl,hg⟩;by_cases h0:ly=[]
  ·right
   subst h0;simp only [go_sem,ya,EY,hy.len,yM,show ¬(0:Int)<((0:Nat):Int) by omega];refine ⟨_,_,rfl,by simp,_,_,rfl,rfl,x,lx,by simp only [go_sem,ya],hx,dx,nx,?_⟩;rw [<-hg];simp [dv]
  ·left
   have hp:0<dv ly:=by
    rcases xj (dv ly) with e | e
    ·exact absurd (Ue ny dy e) h0
    ·exact e
   have hl:0<ly.length:=uA.2 h0;obtain ⟨q,r,lq,lr,e1,hq,hr,dq,nq,dr,nr,vq,vr⟩:=Wc Gj km lT mQ cC nN hx hy dx dy nx ny llx Zz hp;have aO:dv lr<dv ly:=by rw [vr];exact xq _ hp
   have hB:=iy dy;simp only [go_sem,ya,EY,hx.ak,hy.len,hy.ak,show (0:Int)<ly.length by omega,e1,hq.bG,hr.bG];refine ⟨_,dv lr,rfl,aO,y,r,ly,lr,?_,hy,hr,dy,ny,dr,nr,by omega,xi (hJ dr nr (Nat.lt_trans aO hB)) Zz,rfl,?_⟩
   ·simp only [go_sem,ya,aA,aB hy.pu,aE _ hy.pu,aB hr.pu,aE _ hr.pu]<;>rfl
   ·rw [<-hg,vr,uh (dv ly),<-Nat.gcd_rec,uh]
def akB (qB:Has P L 290 Cn) {neg:Bool} {N:Nat} (hN:(aw N).length<=180000000000):
  ∀k s,(∃(i m:Nat) (out:List Int),m=k/\out.length=i/\dg out/\dv out+1000000000^i*m=N/\(aw m).length+9*i<=180000000000/\
    ((i=0/\aV [0,2,3,4] s=⟨[(0,.str (aw m)),(2,.ptr 0 0),(3,.bool neg),(4,.af)],[(0,.cells true true true 2 [.bool false,.af])],1,0⟩)\/
    (0<i/\aV [0,2,3,4] s=⟨[(0,.str (aw m)),(2,.ptr 0 0),(3,.bool neg),(4,.ay 1 0 i)],[(1,.cells true true false 1 (out.map aa)),(0,.cells true true true 2 [.bool false,.af])],2,0⟩)))->
   ∃ex s',D P L (.loop [0,2,3,4] pQ) s=some (ex,s')/\∃tm i m out,ex= .exit 0/\m<1000000000/\out.length=i/\dg out/\dv out+1000000000^i*m=N/\i<20000000000/\ah tm 0= .str (aw m)/\ah tm 2= .ptr 0 0/\ah tm 3= .bool neg/\
    ((i=0/\ah tm 4= .af/\s'=⟨tm,[(0,.cells true true true 2 [.bool false,.af])],1,0⟩)\/(0<i/\ah tm 4= .ay 1 0 i/\s'=⟨tm,[(1,.cells true true false 1 (out.map aa)),(0,.cells true true true 2 [.bool false,.af])],2,0⟩)):=by
 intro dq sq;generalize bz:aV [0,2,3,4] sq=s0;revert bz s0 sq dq;apply eb;rintro k s ⟨i,m,out,rfl,hlen,hd,aI,hl,hs⟩;by_cases hm:1000000000<=m
 ·left
  obtain ⟨q,hq⟩:∃q,q=m/1000000000:=⟨_,rfl⟩;obtain ⟨r,hr⟩:∃r,r=m%1000000000:=⟨_,rfl⟩;have jL:=ae3 hm;rw [<-hq,<-hr] at jL;have kS:=Mj 9 r;have hqp:=rJ q;have iH:(aw m).length=(aw q).length+9:=by rw [jL,yU,kS]
  have c1:fP (aw m) (some (aw q).length) (some (aw m).length)=some (.str (gg 9 r)):=by
   rw [jv (by omega) (yv _),xy,jL,tv]
  have c2:fP (aw m) (some 0) (some (aw q).length)=some (.str (aw q)):=by
   rw [jv (by omega) (by omega),yy,jL,yam]
  have e1:=F6 qB (s:=gg 9 r) (v:=r) (by omega) (by rw [Tj 9 r 0 (by omega)];simp)
  unfold ai at e1;have Cz:dg (out++[(r:Int)]):=fK.2 ⟨hd,jx.2 (by omega)⟩;have Wf:dv (out++[(r:Int)])+1000000000^(i+1)*q=N:=by
   rw [kC,hlen,<-aI,y9];have e:=Nat.mod_add_div m 1000000000;rw [<-hr,<-hq] at e;rw [<-e];simp only [dv,wm,xz,yX,xt,xf];omega
  have Jq:((aw m).length:Int)-9=((aw q).length:Int):=by omega
  rcases hs with ⟨h0,rfl⟩ | ⟨h0,rfl⟩
  ·subst h0;have ji:out=[]:=yA hlen;subst ji
   simp only [go_sem,ya,yc,xk,yz,yt,yo,pQ,show (9:Int)<((aw m).length:Int) by omega,Jq,wrapN (n:=(aw q).length) (by omega),dK,dW,c7,c1,c2,e1,js];refine ⟨_,q,rfl,by omega,1,q,[]++[(r:Int)],rfl,rfl,Cz,Wf,by omega,.inr ⟨by omega,?_⟩⟩;rfl
  ·simp only [go_sem,ya,yc,yt,yo,pQ,show (9:Int)<((aw m).length:Int) by omega,Jq,wrapN (n:=(aw q).length) (by omega),dK,dW,c7,c1,e1]
   rw [iq (ex:=false) (pu:=true) (cs:=out.map aa) (by simp only [go_sem,ya]) (by rw [xc,hlen,yo]) (by omega) (by omega) (by decide) (by simp only [go_sem])]
   simp only [go_sem,ya,yc,dK,dW,c7,Jq,wrapN (n:=(aw q).length) (by omega),c2];refine ⟨_,q,rfl,by omega,i+1,q,out++[(r:Int)],rfl,by simp [hlen],Cz,Wf,by omega,.inr ⟨by omega,?_⟩⟩;rw [xx];simp only [go_sem,ya,yc,aA]<;>rfl
 ·right
  have h9:(aw m).length<=9:=oc (k:=8) (by omega);have hp0:=rJ m;rcases hs with ⟨h0,rfl⟩ | ⟨h0,rfl⟩
  ·simp only [go_sem,pQ,show ¬(9:Int)<((aw m).length:Int) by omega];exact ⟨_,_,rfl,by simp,_,i,m,out,rfl,by omega,hlen,hd,aI,by omega,by simp only [go_sem,ya],by simp only [go_sem,ya],by simp only [go_sem,ya],.inl ⟨h0,by simp only [go_sem,ya],rfl⟩⟩
  ·simp only [go_sem,pQ,show ¬(9:Int)<((aw m).length:Int) by omega];exact ⟨_,_,rfl,by simp,_,i,m,out,rfl,by omega,hlen,hd,aI,by omega,by simp only [go_sem,ya],by simp only [go_sem,ya],by simp only [go_sem,ya],.inr ⟨h0,by simp only [go_sem,ya],rfl⟩⟩
def XC (h:Rb P L) {n:Int} (hn:(aw n.natAbs).length<=180000000000):∃r,ai P L 288 [.str (aS n)] r/\iZ r n:=by
 obtain ⟨u,hu⟩:∃u,u=aw n.natAbs:=⟨_,rfl⟩;obtain ⟨b,t,hb,iC,CV⟩:=By n.natAbs;have hs:aS n=(if n<0 then [45] else [])++u:=by rw [hu,lk]
 have zj:0<u.length:=by rw [hu];exact rJ _
 have nU:u[0]=b:=by
  have:u=b::t:=by rw [hu,hb]
  simp [this]
 have key:∀(s:St),aV [0,2,3,4] s=⟨[(0,.str u),(2,.ptr 0 0),(3,.bool (decide (n<0))),(4,.af)],[(0,.cells true true true 2 [.bool false,.af])],1,0⟩->
   ∃ex s',D P L (.loop [0,2,3,4] pQ) s=some (ex,s')/\∃tm i m out,ex= .exit 0/\m<1000000000/\out.length=i/\dg out/\dv out+1000000000^i*m=n.natAbs/\i<20000000000/\ah tm 0= .str (aw m)/\ah tm 2= .ptr 0 0/\ah tm 3= .bool (decide (n<0))/\
    ((i=0/\ah tm 4= .af/\s'=⟨tm,[(0,.cells true true true 2 [.bool false,.af])],1,0⟩)\/(0<i/\ah tm 4= .ay 1 0 i/\s'=⟨tm,[(1,.cells true true false 1 (out.map aa)),(0,.cells true true true 2 [.bool false,.af])],2,0⟩)):=fun s hc=>
  akB (P:=P) (L:=L) h.qB (neg:=decide (n<0)) hn n.natAbs s ⟨0,n.natAbs,[],rfl,rfl,rfl,by simp [dv],by omega,.inl ⟨rfl,by rw [hc,hu]⟩⟩
 have fin:∀(i m:Nat) (out:List Int),m<1000000000->out.length=i->dg out->dv out+1000000000^i*m=n.natAbs->i<20000000000->∃w l,bA P L (D P L) 294 [.bool (decide (n<0)),.aq false (i+1) ((out++[(m:Int)]).map aa)]=some (.agg [.bool (decide (n<0)),w])/\bg w l/\dg l/\nz l/\dv l=n.natAbs:=fun i m out h1 h2 h3 h4 h5=>by
  have hv:=ju false (out++[(m:Int)]);have hd:dg (out++[(m:Int)]):=fK.2 ⟨h3,jx.2 (by omega)⟩;have aI:dv (out++[(m:Int)])=n.natAbs:=by rw [kC,h2];simp [dv];exact h4
  obtain ⟨r,e,hr⟩:=qC h.iQ h.cC (decide (n<0)) hv hd (by simp;omega);have C1:b5 (decide (n<0)) (dv (out++[(m:Int)]))=n:=by
   rw [aI];unfold b5;by_cases h0:n<0
   ·simp only [h0,yJ,xm];omega
   ·simp only [h0,yG,yB,y8];omega
  rw [C1] at hr;obtain ⟨w,l,rfl,hw,ig,gP,cZ⟩:=hr;simp only [yU,List.length_singleton,h2] at e;exact ⟨w,l,e,hw,ig,gP,cZ⟩
 unfold ai;rw [hs];by_cases h0:n<0
 ·rw [yT h0,aK h.Xx];have jl:fP (45::u) (some 1) (some (u.length+1))=some (.str u):=by rw [jv (s:=45::u) (l:=1) (h:=u.length+1) (by omega) (by simp)];simp
  simp only [h0,yJ] at key fin ⊢;simp only [go_sem,ya,yc,JP,aZ,show (0:Int)<((u.length+1:Nat):Int) by omega,xd,xL,AK,yJ,dK,dW,c7,jl];generalize hq:D P L (.loop [0,2,3,4] pQ) _=q;obtain ⟨ex,s,rfl,tm,i,m,out,rfl,hm,hlen,hd,aI,hi,t0,t2,t3,Fx⟩:=bP hq key (by simp only [go_sem,ya,yc,aA]<;>rfl)
  have e1:=F6 h.qB (s:=aw m) (v:=m) (by have:=oc (k:=8) (n:=m) (by omega);omega) (Bx m);have dJ:i<20000000000:=hi;obtain ⟨w,l,e2,hw,ig,gP,cZ⟩:=fin i m out hm hlen hd aI dJ;refine ⟨_,?_,w,l,rfl,hw,ig,gP,cZ⟩;unfold ai at e1;rcases Fx with ⟨zt,t4,rfl⟩ | ⟨zt,t4,rfl⟩
  ·subst zt;have ji:out=[]:=yA hlen;subst ji;have fG:∀hp:Hp,jK 0 1 (some (false,1,[AV.int .i64 (m:Int)],hp))=some (.aq false 1 [AV.int .i64 (m:Int)],hp):=fun hp=>rfl
   simp only [xL,yW,wM,yj] at e2;simp only [go_sem,ya,yc,xk,yz,yt,yo,aA,t0,t2,t3,t4,e1,js,fG,e2,bN,hw.pu,hw.one,eQ];rcases hw with ⟨rfl,_⟩ | ⟨e,rfl⟩<;>simp only [h0,yJ]<;>rfl
  ·simp only [go_sem,ya,yc,yt,yo,aA,t0,t2,t3,t4,e1]
   rw [iq (ex:=false) (pu:=true) (cs:=out.map aa) (by simp only [go_sem,ya]) (by rw [xc,hlen,yo]) (by omega) (by omega) (by decide) (by simp only [go_sem])];have fG:∀hp:Hp,jK 0 (i+1) (some (false,1,out.map aa++[AV.int .i64 (m:Int)],hp))=some (.aq false (i+1) (out.map aa++[AV.int .i64 (m:Int)]),hp):=fun hp=>ll false (by simp [hlen]) (by decide)
   simp only [xx,yW,wM] at e2;simp only [go_sem,ya,yc,fG,e2,bN,hw.pu,hw.one,eQ,uW];rcases hw with ⟨rfl,_⟩ | ⟨e,rfl⟩<;>simp only [h0,yJ]<;>rfl
 ·rw [yE h0,aK h.Xx,xL];simp only [h0,yG] at key fin ⊢;simp only [go_sem,ya,yc,JP,aZ,show (0:Int)<(u.length:Int) by omega,nD zj,nU,show ¬((b:Nat):Int)=45 by omega];generalize hq:D P L (.loop [0,2,3,4] pQ) _=q;obtain ⟨ex,s,rfl,tm,i,m,out,rfl,hm,hlen,hd,aI,hi,t0,t2,t3,Fx⟩:=bP hq key (by simp only [go_sem,ya,yc,aA]<;>rfl)
  have e1:=F6 h.qB (s:=aw m) (v:=m) (by have:=oc (k:=8) (n:=m) (by omega);omega) (Bx m);have dJ:i<20000000000:=hi;obtain ⟨w,l,e2,hw,ig,gP,cZ⟩:=fin i m out hm hlen hd aI dJ;refine ⟨_,?_,w,l,rfl,hw,ig,gP,cZ⟩;rcases Fx with ⟨zt,t4,rfl⟩ | ⟨zt,t4,rfl⟩
  ·subst zt;have ji:out=[]:=yA hlen;subst ji;have fG:∀hp:Hp,jK 0 1 (some (false,1,[AV.int .i64 (m:Int)],hp))=some (.aq false 1 [AV.int .i64 (m:Int)],hp):=fun hp=>rfl
   simp only [xL,yW,wM,yj] at e2;simp only [go_sem,ya,yc,xk,yz,yt,yo,aA,t0,t2,t3,t4,e1,js,fG,e2,bN,hw.pu,hw.one,eQ];rcases hw with ⟨rfl,_⟩ | ⟨e,rfl⟩<;>simp only [h0,yG]<;>rfl
  ·simp only [go_sem,ya,yc,yt,yo,aA,t0,t2,t3,t4,e1]
   rw [iq (ex:=false) (pu:=true) (cs:=out.map aa) (by simp only [go_sem,ya]) (by rw [xc,hlen,yo]) (by omega) (by omega) (by decide) (by simp only [go_sem])];have fG:∀hp:Hp,jK 0 (i+1) (some (false,1,out.map aa++[AV.int .i64 (m:Int)],hp))=some (.aq false (i+1) (out.map aa++[AV.int .i64 (m:Int)]),hp):=fun hp=>ll false (by simp [hlen]) (by decide)
   simp only [xx,yW,wM] at e2;simp only [go_sem,ya,yc,fG,e2,bN,hw.pu,hw.one,eQ,uW];rcases hw with ⟨rfl,_⟩ | ⟨e,rfl⟩<;>simp only [h0,yG]<;>rfl
end
def HA (n:Int) (r:List Nat):bE (aS n++r)=(aS n).length+bE r:=by
 rw [<-lk]
 split
 ·simp only [xd,xL,bE,yH];rw [yE (by decide),Hy r (El _)];omega
 ·rw [xL];exact Hy r (El _)
def Mo:∀{a b:List Nat},bV a b=true->a=b
 | [],[],_=>rfl
 | [],_::_,h=>by simp [bV] at h
 | _::_,[],h=>by simp [bV] at h
 | x::a,y::b,h=>by
  simp only [bV,Bool.and_eq_true] at h;rw [Nat.eq_of_beq_eq_true h.1,Mo h.2]
def Wg {n:Int} {d:Nat} (h:n≠0):bV (TT n d) [48]=false:=by
 cases hb:bV (TT n d) [48] with
 | false=>rfl
 | true=>
  have e:=Mo hb;unfold TT at e;by_cases h0:n<0
  ·rw [lm h0] at e;simp at e
  ·obtain ⟨m,rfl⟩:∃m:Nat,n=m:=⟨n.toNat,by omega⟩;rw [jQ] at e;obtain ⟨b,r,bK,_,_⟩:=By m;rw [bK] at e;simp only [xd,ui,List.append_eq_nil_iff] at e;have hv:=Bx m;rw [bK,e.1,e.2.1] at hv
   have:(some 0:Option Nat)=some m:=hv
   grind
section
variable {P:aR} {L:Lib}
def akC (h:Rb P L):∃r,ai P L 281 [aa 1] r/\iZ r 1:=by
 obtain ⟨r,e,hr⟩:=qC h.iQ h.cC false (ju false [(1:Int)]) (by decide) (by decide);obtain ⟨w,l,rfl,hw,hd,hz,hv⟩:=hr;refine ⟨_,?_,w,l,rfl,hw,hd,hz,hv⟩;simp only [yW,wM,yH,yM,yj] at e;have fG:∀hp:Hp,jK 0 1 (some (false,1,[AV.int .i64 1],hp))=some (.aq false 1 [AV.int .i64 1],hp):=fun hp=>rfl
 unfold ai at e ⊢;rw [aK h.anX];simp only [go_sem,ya,yc,xk,yz,yt,yo,N4,aZ,Int.reduceLT,yG,I0,aA,UJ,Int.reduceEq,Bool.not_false,Bool.not_true,yJ,gC _ _ _ (show (1000000000:Int)≠0 by decide),e9 _ _ _ (show (1000000000:Int)≠0 by decide),show Int.tmod 1 1000000000=1 from rfl,show Int.tdiv 1 1000000000=0 from rfl,show IntKind.wrap .i64 0=0 from rfl,js,fG,e,hw.pu,hw.one,bN,eQ];rcases hw with ⟨rfl,_⟩ | ⟨e,rfl⟩<;>rfl
def XD (h:Rb P L) {n:Int} {d:Nat} (hn:(aw n.natAbs).length<=144000000000) (hd:(aw d).length<=144000000000):
  ∃x y,ai P L 274 [.str (TT n d)] (.av [x,y])/\iZ x n/\iZ y d:=by
 obtain ⟨x,e1,hx⟩:=XC h (n:=n) (by omega);have hli:(aS n).length<=(aw n.natAbs).length+1:=by rw [<-lk];split<;>simp
 by_cases h1:d=1
 ·subst h1;obtain ⟨y,e2,hy⟩:=akC h;have hT:TT n 1=aS n:=by unfold TT;simp
  have hs:=HA n [];rw [wD] at hs;have e3:=Cs h.sH (s:=aS n) (by omega);rw [hs] at e3;refine ⟨x,y,?_,hx,hy⟩;obtain ⟨xw,xl,rfl,fp,_,_,_⟩:=hx;obtain ⟨yw,yl,rfl,fq,_,_,_⟩:=hy;rw [hT];unfold ai at e1 e2 e3 ⊢;rw [aK h.Xu];simp only [go_sem,ya,yc,JK,aZ,e3,bE,yX,yJ,e1,e2,bN,fp.pu,fp.one,fq.pu,fq.one,eQ];rcases fp with ⟨rfl,_⟩ | ⟨e,rfl⟩<;>rcases fq with ⟨rfl,_⟩ | ⟨e',rfl⟩<;>rfl
 ·obtain ⟨y,e2,hy⟩:=XC h (n:=(d:Int)) (by simp;omega);rw [jQ] at e2;obtain ⟨s,Ha⟩:∃s,s=TT n d:=⟨_,rfl⟩;have hT:s=aS n++47::aw d:=by rw [Ha];unfold TT;rw [yE h1]
  have hs:bE s=(aS n).length:=by rw [hT,HA];rfl
  have hlen:s.length=(aS n).length+(aw d).length+1:=by rw [hT];simp;omega
  have e3:=Cs h.sH (s:=s) (by omega);rw [hs] at e3;have c1:fP s (some 0) (some (aS n).length)=some (.str (aS n)):=by
   rw [jv (by omega) (by omega),yy,hT,yam]
  have c2:fP s (some ((aS n).length+1)) (some s.length)=some (.str (aw d)):=by
   rw [jv (by omega) (yv _),xy,hT,show aS n++47::aw d=(aS n++[47])++aw d by simp,show (aS n).length+1=(aS n++[47]).length by simp,tv]
  refine ⟨x,y,?_,hx,hy⟩;obtain ⟨xw,xl,rfl,fp,_,_,_⟩:=hx;obtain ⟨yw,yl,rfl,fq,_,_,_⟩:=hy;rw [<-Ha];unfold ai at e1 e2 e3 ⊢;rw [aK h.Xu]
  simp only [go_sem,ya,yc,JK,aZ,e3,show ¬((aS n).length:Int)=(s.length:Int) by omega,dK,dW,c7,c1,wrapN (n:=(aS n).length+1) (by omega),show ((aS n).length:Int)+1=(((aS n).length+1:Nat):Int) from rfl,c2,e1,e2,bN,fp.pu,fp.one,fq.pu,fq.one,eQ];rcases fp with ⟨rfl,_⟩ | ⟨e,rfl⟩<;>rcases fq with ⟨rfl,_⟩ | ⟨e',rfl⟩<;>rfl
end
def I5 {n:Int} {d:Nat} (h:n<0):TT n d=45::TT (-n) d:=by
 have e:aS (-n)=aw n.natAbs:=by
  rw [<-lk,yE (show ¬-n<0 by omega),xL,show (-n).natAbs=n.natAbs by omega]
 unfold TT;rw [lm h,e];rfl
def ahu {n:Int} {d:Nat} (h:¬n<0):∃b u,TT n d=b::u/\48<=b:=by
 obtain ⟨b,r,hb,h1,_⟩:=By n.natAbs;refine ⟨b,r++(if d=1 then [] else 47::aw d),?_,h1⟩;unfold TT;rw [<-lk,yE h,xL,hb];rfl
def ot (a b:AV) (r:List AV):fQ 2 true (a::b::r)=some (.agg [a,b]):=rfl
def ahv (k:Nat):2^k<=1000000000^k:=Nat.pow_le_pow_left (by decide) k
def Bd.r {k:Nat} {z:Int} (h:Bd k z):z.natAbs<1000000000^k:=yR h (ahv k)
def Fy (r:Rat):RT r=TT r.num r.den:=rfl
def Us {n d:Int} (hd:0<d):RT (wb n d)=mO n d:=by
 obtain ⟨h1,h2⟩:=Ld (a:=n) hd;rw [ag8 hd,Fy,h1]
 congr 1
 exact uE (show ((wb n d).den:Int)=((cY n d).toNat:Int) by rw [h2];have:=Et (a:=n) hd;unfold cY at this ⊢;omega)
structure Rm (P:aR) (L:Lib):Prop extends Rb P L where
 an5:Has P L 263 cR
 Kc:Has P L 273 AH
 an6:Has P L 284 N5
 an7:Has P L 285 JN
 an8:Has P L 286 JO
 CA:Has P L 287 FR
 nN:Has P L 301 qv
structure Rl (P:aR) (L:Lib):Prop extends Rm P L where
 an9:Has P L 269 FO
structure Rp (P:aR) (L:Lib):Prop extends Ras P L,Rm P L
section
variable {P:aR} {L:Lib}
def Wh (h:Rm P L) {v w:AV} {a b:List Int} (hv:bg v a) (hw:bg w b) (ha:dg a) (hb:dg b) (na:nz a) (nb:nz b) (la:a.length<=8000000000) (lb:b.length<=8000000000) (h0:0<dv b):
  ∃q r lq lr,ai P L 289 [v,w] (.av [q,r])/\bg q lq/\bg r lr/\dg lq/\nz lq/\dg lr/\nz lr/\dv lq=dv a/dv b/\dv lr=dv a%dv b:=
 Wc h.Gj h.km h.lT h.mQ h.cC h.nN hv hw ha hb na nb la lb h0
def akD (h:Rm P L) {x y:AV} {a b:List Int} {n d:Int} {K:Nat} (hK:K<=8000000000) (hx:bg x a) (ha:dg a) (na:nz a) (va:dv a=n.natAbs) (hy:bg y b) (hb:dg b) (nb:nz b) (vb:dv b=d.natAbs) (kn:Bd K n) (kd:Bd K d) (hd:0<d) {tm:Env} (t2:ah tm 2= .ptr 0 0) (t3:ah tm 3= .ptr 1 0):
  fg [.t 4] (D P L (ax (ax lO.body)) ⟨tm,[(1,.cells true true true 2 [.bool (decide (d<0)),y]),(0,.cells true true true 2 [.bool (decide (n<0)),x])],2,0⟩)=some (.str (RT (wb n d))):=by
 rw [Us hd];have la:=xi (hJ ha na (by rw [va];exact kn.r)) hK
 have lb:=xi (hJ hb nb (by rw [vb];exact kd.r)) hK
 obtain ⟨g,lg,e1,hg,Ql,ng,vg⟩:=We h.Xv h.Gj h.km h.lT h.mQ h.cC h.nN hx hy ha hb na nb la lb;rw [va,vb,show we n.natAbs d.natAbs=wE n d from rfl] at vg;have GI:=II (a:=n) hd;have aoa:wE n d<=d.natAbs:=Int.gcd_le_natAbs_right n (by omega);have ZA:lg.length<=8000000000:=xi (hJ Ql ng (by rw [vg];exact Nat.lt_of_le_of_lt aoa kd.r)) hK
 obtain ⟨p,p',lp,lp',e2,hp,an,dp,np,dp',np',vp,vp'⟩:=Wh h hx hg ha Ql na ng la ZA (by omega);obtain ⟨q,q',lq,lq',e3,hq,bB,dq,nq,dq',nq',vq,vq'⟩:=Wh h hy hg hb Ql nb ng lb ZA (by omega);rw [va,vg] at vp;rw [vb,vg] at vq;have hrn:(cS n d).natAbs=n.natAbs/wE n d:=by unfold cS;rw [vG (Int.gcd_dvd_left n d)];rfl
 have gQ:(cY n d).natAbs=d.natAbs/wE n d:=by unfold cY;rw [vG (Int.gcd_dvd_right n d)];rfl
 have hdp:=Et (a:=n) hd;rw [<-hrn] at vp;rw [<-gQ] at vq;have arL:=ajU n d;have C1:b5 (decide (n<0)) (dv lp)=cS n d:=by
  rw [vp];unfold b5;by_cases h0:n<0
  ·have:¬0<=cS n d:=fun h1=>by have:=uP (vQ GI) h1;omega
   simp only [h0,yJ,xm];omega
  ·have:¬cS n d<0:=fun h1=>by have:=Int.mul_neg_of_pos_of_neg GI h1;omega
   simp only [h0,yG,yB,y8];omega
 have ZB:Bd K (cS n d):=kn.le (Th n d);have OV:Bd K (cY n d):=kd.le (Ti n d);have lp1:lp.length<=8000000000:=xi (hJ dp np (by rw [vp];exact ZB.r)) hK
 have Hb:lq.length<=8000000000:=xi (hJ dq nq (by rw [vq];exact OV.r)) hK
 obtain ⟨s,e4,hs⟩:=qC h.iQ h.cC (decide (n<0)) hp dp (by omega);rw [C1] at hs;obtain ⟨e5,l5⟩:=Xt (K:=K) h.Xw h.nM (by omega) hs ZB.r;obtain ⟨u,e6,hu⟩:=qC h.iQ h.cC false hq dq (by omega);have qY:b5 false (dv lq)=cY n d:=by rw [vq];unfold b5;simp only [yB,y8];omega
 rw [qY] at hu;obtain ⟨e7,l7⟩:=Xt (K:=K) h.Xw h.nM (by omega) hu OV.r;obtain ⟨sw,sl,rfl,nj,_,_,_⟩:=hs;obtain ⟨uw,ul,rfl,ZC,_,_,_⟩:=hu;have art:0<lq.length:=by
  rcases xj lq.length with e | e
  ·rw [yA e] at vq;simp [dv] at vq;omega
  ·exact e
 by_cases C4:lq.length=1
 ·obtain ⟨z,rfl⟩:∃z,lq=[z]:=by
   cases lq with
   | nil=>simp at C4
   | cons z r=>cases r with
    | nil=>exact ⟨z,rfl⟩
    | cons y r=>simp at C4
  have Hk:z=cY n d:=by simp [dv] at vq;omega
  have e8:=hq.bt (i:=0) (by simp);simp only [td] at e8;by_cases h1:cY n d=1
  ·have hT:mO n d=aS (cS n d):=by unfold mO;rw [yT h1]
   rw [hT];simp only [go_sem,ya,lO,ax,t2,t3,hx.ak,hy.ak,bL,yj,cB,show ¬d<0 by omega,yG,e1,hg.ak,hg.shut,e2,hp.ak,hp.bG,an.bG,e3,hq.len,hq.bG,bB.bG,e4,nj.ak,bY,bN,e5,yH,yM,show ((1:Nat):Int)=(1:Int) from rfl,yJ,e8,Hk,h1]
  ·have hT:mO n d=(aS (cS n d)++[47])++aS (cY n d):=by unfold mO;rw [yE h1]
   rw [hT]
   simp only [go_sem,ya,lO,ax,t2,t3,hx.ak,hy.ak,bL,yj,cB,show ¬d<0 by omega,yG,e1,hg.ak,hg.shut,e2,hp.ak,hp.bG,an.bG,e3,hq.len,hq.ak,hq.bG,bB.bG,e4,nj.ak,bY,bN,e5,yH,yM,show ((1:Nat):Int)=(1:Int) from rfl,yJ,e8,Hk,h1,fc (a:=aS (cS n d)) (b:=[47]) (by simp;omega),e6,ZC.ak,e7,fc (a:=aS (cS n d)++[47]) (b:=aS (cY n d)) (by simp;omega)]
 ·have h1:¬cY n d=1:=fun h1=>C4 (by
   have h2:lq.length<=1:=Ur dq nq (by rw [vq,h1];decide)
   omega)
  have hT:mO n d=(aS (cS n d)++[47])++aS (cY n d):=by unfold mO;rw [yE h1]
  rw [hT]
  simp only [go_sem,ya,lO,ax,t2,t3,hx.ak,hy.ak,bL,yj,cB,show ¬d<0 by omega,yG,e1,hg.ak,hg.shut,e2,hp.ak,hp.bG,an.bG,e3,hq.len,hq.ak,hq.bG,bB.bG,e4,nj.ak,bY,bN,e5,show ¬(lq.length:Int)=1 by omega,fc (a:=aS (cS n d)) (b:=[47]) (by simp;omega),e6,ZC.ak,e7,fc (a:=aS (cS n d)++[47]) (b:=aS (cY n d)) (by simp;omega)]
def aaH (n d:Int):wb (-n) (-d)=wb n d:=by rw [Rat.divInt_neg',Int.neg_neg]
def al4 (h:Rm P L) {v w:AV} {n d:Int} {K:Nat} (hK:K<=8000000000) (hv:iZ v n) (hw:iZ w d) (kn:Bd K n) (kd:Bd K d) (hd:d≠0):ai P L 280 [v,w] (.str (RT (wb n d))):=by
 have fin:∀{x y:AV} {a b:List Int} {n' d':Int},bg x a->dg a->nz a->dv a=n'.natAbs->bg y b->dg b->nz b->dv b=d'.natAbs->Bd K n'->Bd K d'->0<d'->wb n' d'=wb n d->∀tm,ah tm 2= .ptr 0 0->ah tm 3= .ptr 1 0->
   D P L (.seq (bn lO.body) (bn (ax lO.body))) ⟨[(0,v),(1,w)],[],0,0⟩=some (.normal,⟨tm,[(1,.cells true true true 2 [.bool (decide (d'<0)),y]),(0,.cells true true true 2 [.bool (decide (n'<0)),x])],2,0⟩)->ai P L 280 [v,w] (.str (RT (wb n d))):=fun {x y a b n' d'} hx ha na va hy hb nb vb kn kd hd hq tm t2 t3 e=>by
  unfold ai;rw [aK h.anW];show fg [.t 4] (D P L (.seq (bn lO.body) (.seq (bn (ax lO.body)) (ax (ax lO.body)))) ⟨[(0,v),(1,w)],[],0,0⟩)=_
  rw [zO,e,fL,<-hq];exact akD h hK hx ha na va hy hb nb vb kn kd hd t2 t3
 have dN:=hv;have P4:=hw;obtain ⟨x,a,rfl,hx,ha,na,va⟩:=hv;obtain ⟨y,b,rfl,hy,hb,nb,vb⟩:=hw;by_cases h0:d<0
 ·obtain ⟨r,e1,hr⟩:=W6 (K:=K) h.Xy h.iQ h.cC (by omega) dN kn.r;obtain ⟨s,e2,hs⟩:=W6 (K:=K) h.Xy h.iQ h.cC (by omega) P4 kd.r;obtain ⟨x',a',rfl,Bn,A1,na',va'⟩:=hr;obtain ⟨y',b',rfl,Hf,bK,nb',vb'⟩:=hs;simp only [h0,yJ] at e2
  refine fin Bn A1 na' va' Hf bK nb' vb' kn.neg kd.neg (by omega) (aaH n d) _ ?_ ?_ (by
   simp only [go_sem,ya,yc,lO,bn,ax,aZ,hx.pu,hx.ak,hx.one,hy.pu,hy.ak,hy.one,Bn.pu,Bn.one,Hf.pu,Hf.one,bL,yj,h0,yJ,ot,bY,e1,e2,bN,eQ]<;>rfl)<;>simp only [go_sem,ya]
 ·refine fin hx ha na va hy hb nb vb kn kd (by omega) rfl _ ?_ ?_ (by simp only [go_sem,ya,yc,lO,bn,ax,aZ,hx.pu,hx.one,hy.pu,hy.one,bL,yj,h0,yG]<;>rfl)<;>simp only [go_sem,ya]
end
end VE
