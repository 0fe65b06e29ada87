import Derived.Test.YtflgmingejdfnaaGreatDoorUav
import Derived.Test.YtflgmingejdfnaaGreatDoorUas
import Derived.Test.YtflgmingejdfnaaGreatDoorUat
set_option linter.all false
set_option maxRecDepth 100000
open Bool renaming false_eq_true→yA,not_false→yI
open Int renaming le_of_lt→uK,mul_add→uO,mul_le_mul→ybq,mul_le_mul_of_nonneg_left→wT,mul_nonneg→vM,natCast_add→vC,natCast_mul→xS,natCast_nonneg→tg,neg_neg→ybN,ofNat_eq_natCast→yag,ofNat_lt→ui,pow_pos→ycf,pow_succ→uJ,tdiv_eq_ediv_of_nonneg→xE,tmod_eq_emod_of_nonneg→y9,toNat_natCast→wo,toNat_of_nonneg→xV
open Int.ofNat renaming inj→yao
open List renaming append_assoc→xo,drop→xz,drop_drop→vH,drop_eq_getElem_cons→yT,drop_eq_nil_of_le→xh,getD_eq_getElem?_getD→xJ,length_cons→yy,length_drop→wA,length_nil→yG,length_take→yS,replicate→yz,set_eq_of_length_le→tx,take_append_drop→xT,take_length→xW,take_of_length_le→yK,take_set→tA
open Nat renaming add_mul→wZ,add_zero→yZ,div_add_mod→wC,div_lt_iff_lt_mul→wH,eq_zero_or_pos→xu,le_of_lt_succ→tq,le_refl→yB,le_trans→xp,lt_of_lt_of_le→yL,min_eq_left→xY,mod_lt→xD,mul_add→xH,mul_comm→xQ,mul_le_mul→xL,mul_le_mul_left→yQ,mul_one→yi,mul_zero→xO,pow_add→wJ,pow_le_pow_right→xk,pow_succ→xj,reduceAdd→yb,reduceEqDiff→ya,reduceLT→yt,zero_add→yd
namespace VE
section
open Go (IntKind)
def Df {hp:Hp} {ct id o:Nat} {v:Int} {ex:Bool} {l:List Int} (h:o<l.length):fu hp ct id o 1 [.int .i64 v] (some (.cells true true ex 1 (l.map aa)))=some (.aw [],bf hp id (.cells true true ex 1 ((l.set o v).map aa)),ct):=by
 rw [lj (by rfl) (by simp;omega) (by rfl)]
 have:over o [AV.int .i64 v] (l.map aa)=(l.set o v).map aa:=by
  simp only [over,yy,yG,yd];rw [List.map_set,List.set_eq_take_append_cons_drop,yF (by simpa using h)]
  simp
 rw [this];rfl
def ze {l:List Int} {o:Nat} (h:o<l.length):xz o (l.map aa)=AV.int .i64 (l.getD o 0)::xz (o+1) (l.map aa):=by
 rw [yT (by simpa using h)]
 grind
def rE {v:AV} {l:List Int} (hv:bq v l) {i:Nat} (h:i<l.length):iF 1 i v=some (.bi (.int .i64 (l.getD i 0)::(l.map aa).drop (i+1))):=by
 rw [hv.aY h]
 grind
def apL {o x y c:Int} (ho:0<=o/\o<1000000000) (hx:0<=x/\x<1000000000) (hy:0<=y/\y<1000000000) (hc:0<=c/\c<1000000000):
  (0<=x*y/\x*y<=999999998000000001)/\0<=o+x*y+c/\o+x*y+c<1000000000000000000:=by
 have h1:=vM hx.1 hy.1;have h2:=ybq (show x<=999999999 by omega) (show y<=999999999 by omega) hy.1 (by decide);omega
section
variable {P:aI} {L:Lib}
def auY {v w:AV} {a b:List Int} (hv:bq v a) (hw:bq w b) (ha:dg a) (hb:dg b) (la:a.length<=20000000000) (lb:b.length<=20000000000) {n i:Nat} (hn:n=a.length+b.length) (hi:i<a.length) {out0:List Int}:
  ∀k s,(∃(j:Nat) (c:Int) (out:List Int),bA [0,1,5,6,7,8] s=⟨[(0,v),(1,w),(5,.ak 0 0 n),(6,aa i),(7,aa c),(8,aa j)],[(0,.cells true true true 1 (out.map aa))],1,0⟩/\j+k=b.length/\out.length=n/\dg out/\(0<=c/\c<1000000000)/\
    dv out+1000000000^i*1000000000^j*c.toNat=dv out0+1000000000^i*((a.getD i 0).toNat*dv (b.take j))/\(∀m,i+b.length<=m->out.getD m 0=out0.getD m 0))->
   ∃ex s',D P L (.loop [0,1,5,6,7,8] Kd) s=some (ex,s')/\∃tm c out,s'=⟨tm,[(0,.cells true true true 1 (out.map aa))],1,0⟩/\ex= .exit 2/\ab tm 0=v/\ab tm 1=w/\ab tm 5= .ak 0 0 n/\ab tm 6=aa i/\ab tm 7=aa c/\out.length=n/\dg out/\(0<=c/\c<1000000000)/\
    dv out+1000000000^i*1000000000^b.length*c.toNat=dv out0+1000000000^i*((a.getD i 0).toNat*dv b)/\(∀m,i+b.length<=m->out.getD m 0=out0.getD m 0):=by
 refine cg (I:=fun k s=>∃(j:Nat) (c:Int) (out:List Int),s=⟨[(0,v),(1,w),(5,.ak 0 0 n),(6,aa i),(7,aa c),(8,aa j)],[(0,.cells true true true 1 (out.map aa))],1,0⟩/\j+k=b.length/\out.length=n/\dg out/\(0<=c/\c<1000000000)/\
    dv out+1000000000^i*1000000000^j*c.toNat=dv out0+1000000000^i*((a.getD i 0).toNat*dv (b.take j))/\(∀m,i+b.length<=m->out.getD m 0=out0.getD m 0))
  (Q:=fun ex s'=>∃tm c out,s'=⟨tm,[(0,.cells true true true 1 (out.map aa))],1,0⟩/\ex= .exit 2/\ab tm 0=v/\ab tm 1=w/\ab tm 5= .ak 0 0 n/\ab tm 6=aa i/\ab tm 7=aa c/\out.length=n/\dg out/\(0<=c/\c<1000000000)/\
    dv out+1000000000^i*1000000000^b.length*c.toNat=dv out0+1000000000^i*((a.getD i 0).toNat*dv b)/\(∀m,i+b.length<=m->out.getD m 0=out0.getD m 0)) ?_
 rintro k s ⟨j,c,out,rfl,hk,hlen,hd,hc,aR,gW⟩;by_cases hj:j<b.length
 ·left
  obtain ⟨x,hx⟩:∃x,x=a.getD i 0:=⟨_,rfl⟩;obtain ⟨y,hy⟩:∃y,y=b.getD j 0:=⟨_,rfl⟩;obtain ⟨o,ho⟩:∃o,o=out.getD (i+j) 0:=⟨_,rfl⟩;have gx:=iD ha i;have gy:=iD hb j;have oA:=iD hd (i+j);rw [<-hx] at gx;rw [<-hy] at gy;rw [<-ho] at oA;obtain ⟨p1,p2,p3⟩:=apL oA gx gy hc;obtain ⟨t,ht⟩:∃t:Nat,o+x*y+c=t:=⟨(o+x*y+c).toNat,by omega⟩;have hr:((t:Nat):Int).tmod 1000000000=((t%1000000000:Nat):Int):=by rw [y9 (by omega)];rfl
  have hq:((t:Nat):Int).tdiv 1000000000=((t/1000000000:Nat):Int):=by rw [xE (by omega)];rfl
  have e1:=rE hv hi;have e2:=rE hw hj;rw [<-hx] at e1;rw [<-hy] at e2;have e3:=ze (l:=out) (o:=i+j) (by omega);rw [<-ho] at e3;have r9:t=o.toNat+x.toNat*y.toNat+c.toNat:=by
   have:((x.toNat*y.toNat:Nat):Int)=x*y:=by rw [xS,xV gx.1,xV gy.1]
   omega
  have bf:=Us (l:=out) (j:=i+j) (x:=((t%1000000000:Nat):Int)) (by omega);rw [<-ho,wo,wJ] at bf;have lW:=aoC (Y:=dv (b.take j)) r9 bf (by rw [hx];exact aR)
  simp only [go_sem,ya,yi,Kd,hw.len,show (j:Int)<b.length by omega,wrapN (n:=i+j) (by omega),show (i:Int)+(j:Int)=((i+j:Nat):Int) from rfl,dH 0 0 (show i+j<n by omega),yd,e3,e1,e2,wrap64 (n:=x*y) (by omega) (by omega),wrap64 (n:=o+x*y) (by omega) (by omega),ht,wrapN (n:=t) (by omega),dK _ _ _ (show (1000000000:Int)≠0 by decide),eU _ _ _ (show (1000000000:Int)≠0 by decide),hr,hq,wrapN (n:=t/1000000000) (by omega),Df (l:=out) (o:=i+j) (by omega)];refine ⟨_,k-1,rfl,by omega,j+1,((t/1000000000:Nat):Int),out.set (i+j) ((t%1000000000:Nat):Int),?_,by omega,by simp [hlen],On hd (by omega),by omega,?_,fun m hm=>?_⟩
  ·rw [wrap64 (by omega) (by omega)];simp only [go_sem,ya,yb,av,az hv.pu,aE _ hv.pu,az hw.pu,aE _ hw.pu]<;>rfl
  ·rw [wo,pM,xj,<-hx,<-hy];exact lW
  ·rw [acg (by omega)];exact gW m hm
 ·right
  have:j=b.length:=by omega
  subst this;rw [xW] at aR;simp only [go_sem,ya,Kd,hw.len,show ¬(b.length:Int)<b.length by omega];exact ⟨_,_,rfl,by simp,_,c,out,rfl,rfl,by simp only [go_sem,ya],by simp only [go_sem,ya],by simp only [go_sem,ya],by simp only [go_sem,ya],by simp only [go_sem,ya],hlen,hd,hc,aR,gW⟩
end
end
section
open Go (IntKind)
def Sn (n:Nat):(yz n [AV.int .i64 0]).flatten=(yz n (0:Int)).map aa:=by simp_all
def arX (b:Bool):K5 true (some b)=some (.bool (!b)):=by cases b<;>rfl
def aaI (n m:Nat):(yz n (0:Int)).getD m 0=0:=by grind
section
variable {P:aI} {L:Lib}
def auZ {v w:AV} {a b:List Int} (hv:bq v a) (hw:bq w b) (ha:dg a) (hb:dg b) (la:a.length<=20000000000) (lb:b.length<=20000000000) {n:Nat} (hn:n=a.length+b.length):
  ∀k s,(∃(i:Nat) (out:List Int),bA [0,1,5,6] s=⟨[(0,v),(1,w),(5,.ak 0 0 n),(6,aa i)],[(0,.cells true true true 1 (out.map aa))],1,0⟩/\i+k=a.length/\out.length=n/\dg out/\dv out=dv (a.take i)*dv b/\(∀m,i+b.length<=m->out.getD m 0=0))->
   ∃ex s',D P L (.loop [0,1,5,6] Ke) s=some (ex,s')/\∃tm out,s'=⟨tm,[(0,.cells true true true 1 (out.map aa))],1,0⟩/\ex= .exit 0/\ab tm 5= .ak 0 0 n/\out.length=n/\dg out/\dv out=dv a*dv b:=by
 refine cg (I:=fun k s=>∃(i:Nat) (out:List Int),s=⟨[(0,v),(1,w),(5,.ak 0 0 n),(6,aa i)],[(0,.cells true true true 1 (out.map aa))],1,0⟩/\i+k=a.length/\out.length=n/\dg out/\dv out=dv (a.take i)*dv b/\(∀m,i+b.length<=m->out.getD m 0=0))
  (Q:=fun ex s'=>∃tm out,s'=⟨tm,[(0,.cells true true true 1 (out.map aa))],1,0⟩/\ex= .exit 0/\ab tm 5= .ak 0 0 n/\out.length=n/\dg out/\dv out=dv a*dv b) ?_
 rintro k s ⟨i,out,rfl,hk,hlen,hd,aR,gW⟩;by_cases hi:i<a.length
 ·left
  simp only [go_sem,ya,Ke,hv.len,show (i:Int)<a.length by omega];generalize hq:D P L (.loop [0,1,5,6,7,8] Kd) _=q;obtain ⟨ex,s,rfl,tm,c,zu,rfl,rfl,t0,t1,t5,t6,t7,D7,jW,hc,U9,La⟩:=bV hq (auY (P:=P) (L:=L) hv hw ha hb la lb hn hi (out0:=out) b.length) ⟨0,0,out,by simp only [go_sem,ya,yb,av,az hv.pu,aE _ hv.pu,az hw.pu,aE _ hw.pu]<;>rfl,by omega,hlen,hd,by omega,by simp [dv],fun m _=>rfl⟩
  have hz:zu.getD (i+b.length) 0=0:=by rw [La _ (yB _),gW _ (yB _)]
  have e3:=ze (l:=zu) (o:=i+b.length) (by omega);rw [hz] at e3;have bf:=Us (l:=zu) (j:=i+b.length) (x:=c) (by omega);rw [hz,wJ] at bf
  simp only [go_sem,ya,yi,av,t0,t1,t5,t6,t7,hw.len,az hv.pu,aE _ hv.pu,az hw.pu,aE _ hw.pu,wrapN (n:=i+b.length) (by omega),show (i:Int)+(b.length:Int)=((i+b.length:Nat):Int) from rfl,dH 0 0 (show i+b.length<n by omega),yd,e3,Int.zero_add,wrap64 (n:=c) (by omega) (by omega),Df (l:=zu) (o:=i+b.length) (by omega)];refine ⟨_,k-1,rfl,by omega,i+1,zu.set (i+b.length) c,?_,by omega,by simp [D7],On jW hc,?_,fun m hm=>?_⟩
  ·rw [wrap64 (by omega) (by omega)];simp only [go_sem,ya,yb,av,az hv.pu,aE _ hv.pu,az hw.pu,aE _ hw.pu]<;>rfl
  ·rw [pM,wZ,<-aR,Nat.mul_assoc];simp only [Int.toNat_zero,xO,yZ] at bf;rw [bf];exact U9
  ·rw [acg (by omega),La m (by omega),gW m (by omega)]
 ·right
  have:i=a.length:=by omega
  subst this;rw [xW] at aR;simp only [go_sem,ya,Ke,hv.len,show ¬(a.length:Int)<a.length by omega];exact ⟨_,_,rfl,by simp,_,out,rfl,rfl,by simp only [go_sem,ya],hlen,hd,aR⟩
def Wk (h:Has P L 293 Cz) (dj:Has P L 300 mI) {v w:AV} {a b:List Int} (hv:bq v a) (hw:bq w b) (ha:dg a) (hb:dg b) (la:a.length<=8000000000) (lb:b.length<=8000000000):
  ∃r out,af P L 293 [v,w] r/\bq r out/\shut r=r/\dg out/\nz out/\dv out=dv a*dv b:=by
 obtain ⟨n,hn⟩:∃n,n=a.length+b.length:=⟨_,rfl⟩;have dc:∀ct:Nat,AZ ct 1 8 [.int .i64 0] (some n) (some n)=some (.ak ct 0 n,.cells true true true 1 ((yz n (0:Int)).map aa)):=fun ct=>by
  rw [Gb (sz:=1) (by omega) (by omega) (by rfl) (by rfl),Sn];rfl
 unfold af;rw [aq h]
 simp only [go_sem,ya,yb,Cz,hv.len,hw.len,wrapN (n:=n) (by omega),show (a.length:Int)+(b.length:Int)=((a.length+b.length:Nat):Int) from rfl,<-hn,dc];generalize hq:D P L (.loop [0,1,5,6] Ke) _=q;obtain ⟨ex,s,rfl,tm,out,rfl,rfl,t5,hlen,hd,aR⟩:=bV hq (auZ (P:=P) (L:=L) hv hw ha hb (by omega) (by omega) hn a.length) ⟨0,yz n 0,by simp only [go_sem,ya,yb,av,az hv.pu,aE _ hv.pu,az hw.pu,aE _ hw.pu]<;>rfl,by omega,by simp,aci n,by rw [ach];simp [dv],fun m _=>aaI n m⟩
 have mO:=fN true out;rw [hlen] at mO;obtain ⟨r,e1,hr,gO⟩:=CF dj mO (by omega);refine ⟨r,eH out,?_,hr,gO,BT hd,FJ out,by rw [Af];exact aR⟩
 have ig:∀hp:Hp,mJ 0 n (some (true,1,out.map aa,hp))=some (.aO true n (out.map aa),hp):=fun hp=>my true (by simp [hlen]) (by decide)
 simp only [go_sem,yb,av,t5,ig,e1,gO,hr.dM]
def Lo (h:Has P L 278 PM) (mh:Has P L 293 Cz) (iY:Has P L 294 CA) (dj:Has P L 300 mI) {v w:AV} {n m:Int} {K:Nat} (hK:K<=8000000000) (hv:kN v n) (hw:kN w m) (hn:n.natAbs<1000000000^K) (hm:m.natAbs<1000000000^K):
  ∃r,af P L 278 [v,w] r/\kN r (n*m):=by
 obtain ⟨x,a,rfl,hx,ha,na,va⟩:=hv;obtain ⟨y,b,rfl,hy,hb,nb,vb⟩:=hw;have la:=xp (jQ ha na (by rw [va];exact hn)) hK
 have lb:=xp (jQ hb nb (by rw [vb];exact hm)) hK
 obtain ⟨z,out,e1,hz,gO,hd,Db,aR⟩:=Wk mh dj hx hy ha hb la lb;have lo:out.length<=20000000000:=by
  refine jQ hd Db ?_;rw [aR];have h1:=kD ha;have h2:=kD hb;have h3:dv a*dv b<1000000000^a.length*1000000000^b.length:=Nat.mul_lt_mul'' h1 h2;rw [<-wJ] at h3;have hk:∀K,a.length+b.length<=K->dv a*dv b<1000000000^K:=fun K h=>yL h3 (xk (by decide) h)
  exact hk 20000000000 (by omega)
 obtain ⟨r,e2,hr⟩:=rM iY dj (!(decide (n<0)==decide (m<0))) hz hd lo;have e:cL (!(decide (n<0)==decide (m<0))) (dv out)=n*m:=by
  rw [aR,va,vb];have hnm:((n.natAbs*m.natAbs:Nat):Int)=(n.natAbs:Int)*m.natAbs:=xS _ _;unfold cL;by_cases h0:n<0<;>by_cases h1:m<0<;>simp only [h0,h1,yq,yp,tG,Bool.not_true,yA,yN,hnm]
  ·rw [show (n.natAbs:Int)= -n by omega,show (m.natAbs:Int)= -m by omega,Int.neg_mul_neg]
  ·rw [show (true==false)=false from rfl,yI,yF rfl,show (n.natAbs:Int)= -n by omega,show (m.natAbs:Int)=m by omega,Int.neg_mul,ybN]
  ·rw [show (false==true)=false from rfl,yI,yF rfl,show (n.natAbs:Int)=n by omega,show (m.natAbs:Int)= -m by omega,Int.mul_neg,ybN]
  ·rw [show (n.natAbs:Int)=n by omega,show (m.natAbs:Int)=m by omega]
 rw [e] at hr;obtain ⟨w2,l2,rfl,iz,et,jh,A2⟩:=hr;refine ⟨_,?_,w2,l2,rfl,iz,et,jh,A2⟩;unfold af at e1 e2 ⊢;rw [aq h];simp only [go_sem,ya,yb,PM,aG,hx.pu,hx.ah,hx.one,hy.pu,hy.ah,hy.one,hz.ah,hz.shut,iz.pu,iz.one,aZ,yd,cC,e1,n7,arX,e2,fB,bB];rcases iz with ⟨rfl,_⟩ | ⟨e,rfl⟩<;>rfl
end
end
section
open Go (IntKind)
def arY (i:Nat) (q:List Int) (x:Int):(yz (i+1) (0:Int)++q).set i x=yz i 0++x::q:=by
 rw [List.replicate_succ',xo,List.set_append_right _ _ (by simp)]
 simp
section
variable {P:aI} {L:Lib}
def au0 {v:AV} {a:List Int} (hv:bq v a) (ha:dg a) (la:a.length<=20000000000) {d:Nat} (h0:0<d) (h1:d<1000000000):
  ∀k s,(∃(j r:Nat) (q:List Int),bA [0,1,6,7,8] s=⟨[(0,v),(1,aa d),(6,.ak 0 0 a.length),(7,aa r),(8,aa ((j:Int)-1))],[(0,.cells true true true 1 ((yz j (0:Int)++q).map aa))],1,0⟩/\j=k/\j+q.length=a.length/\r<d/\dg q/\dv (a.drop j)=d*dv q+r)->
   ∃ex s',D P L (.loop [0,1,6,7,8] Kf) s=some (ex,s')/\∃tm r q,s'=⟨tm,[(0,.cells true true true 1 (q.map aa))],1,0⟩/\ex= .exit 0/\ab tm 6= .ak 0 0 a.length/\ab tm 7=aa (r:Nat)/\q.length=a.length/\r<d/\dg q/\dv a=d*dv q+r:=by
 refine cg (I:=fun k s=>∃(j r:Nat) (q:List Int),s=⟨[(0,v),(1,aa d),(6,.ak 0 0 a.length),(7,aa r),(8,aa ((j:Int)-1))],[(0,.cells true true true 1 ((yz j (0:Int)++q).map aa))],1,0⟩/\j=k/\j+q.length=a.length/\r<d/\dg q/\dv (a.drop j)=d*dv q+r)
  (Q:=fun ex s'=>∃tm r q,s'=⟨tm,[(0,.cells true true true 1 (q.map aa))],1,0⟩/\ex= .exit 0/\ab tm 6= .ak 0 0 a.length/\ab tm 7=aa (r:Nat)/\q.length=a.length/\r<d/\dg q/\dv a=d*dv q+r) ?_
 rintro k s ⟨j,r,q,rfl,rfl,hl,hr,hd,aR⟩
 cases j with
 | zero=>
  right
  simp only [go_sem,ya,Kf,show ¬(0:Int)<=((0:Nat):Int)-1 by omega];exact ⟨_,_,rfl,by simp,_,r,q,rfl,rfl,by simp only [go_sem,ya],by simp only [go_sem,ya],by omega,hr,hd,aR⟩
 | succ i=>
  left
  have hi:i<a.length:=by omega
  obtain ⟨x,hx⟩:∃x,x=a.getD i 0:=⟨_,rfl⟩;have e1:=rE hv hi;have gx:=iD ha i;rw [<-hx] at e1 gx;obtain ⟨t,ht⟩:∃t:Nat,t=r*1000000000+x.toNat:=⟨_,rfl⟩;have r9:(r:Int)*1000000000+x=(t:Int):=by omega
  have lG:t<d*1000000000:=by
   omega
  have fa:t/d<1000000000:=(wH h0).2 (by rw [xQ];exact lG)
  have bS:t%d<d:=xD _ h0;have e2:((t:Nat):Int).tdiv d=((t/d:Nat):Int):=by rw [xE (by omega)];rfl
  have e3:((t:Nat):Int).tmod d=((t%d:Nat):Int):=by rw [y9 (by omega)];rfl
  have Mf:(yz (i+1) (0:Int)++q).length=a.length:=by simp;omega
  have bh:=fun (hp:Hp) (ct id:Nat) (ex:Bool)=>Df (hp:=hp) (ct:=ct) (id:=id) (ex:=ex) (v:=((t/d:Nat):Int)) (l:=yz (i+1) (0:Int)++q) (o:=i) (by rw [Mf];exact hi)
  simp only [arY] at bh
  simp only [go_sem,ya,yi,Kf,show ((i+1:Nat):Int)-1=(i:Int) by omega,show (0:Int)<=(i:Int) by omega,wrap64 (n:=(r:Int)*1000000000) (by omega) (by omega),e1,r9,wrapN (n:=t) (by omega),eU _ _ _ (show (d:Int)≠0 by omega),dK _ _ _ (show (d:Int)≠0 by omega),e2,e3,wrapN (n:=t/d) (by omega),dH 0 0 (show i<a.length from hi),yd,bh]
  refine ⟨_,i,rfl,by omega,i,t%d,((t/d:Nat):Int)::q,?_,rfl,by simp;omega,bS,(ik (a:=[((t/d:Nat):Int)]) (b:=q)).2 ⟨lP.2 ⟨tg _,ui.2 fa⟩,hd⟩,?_⟩
  ·rw [wrap64 (by omega) (by omega)];simp only [go_sem,ya,yb,av,az hv.pu,aE _ hv.pu]<;>rfl
  ·have iO:a.drop i=x::a.drop (i+1):=by
    rw [yT hi,hx];simp [xJ,List.getElem?_eq_getElem hi]
   rw [iO];simp only [dv,aR,wo];have e:=wC t d;rw [xH,xH d,Nat.mul_left_comm 1000000000 d];omega
def aie (h:Has P L 299 CB) (dj:Has P L 300 mI) {v:AV} {a:List Int} (hv:bq v a) (ha:dg a) (la:a.length<=20000000000) {d:Nat} (h0:0<d) (h1:d<1000000000):
  ∃r q,af P L 299 [v,aa d] (.aw [r,aa (dv a%d:Nat)])/\bq r q/\shut r=r/\bN r=r/\dg q/\nz q/\dv q=dv a/d:=by
 obtain ⟨n,hn⟩:∃n,n=a.length:=⟨_,rfl⟩;have dc:∀ct:Nat,AZ ct 1 8 [.int .i64 0] (some n) (some n)=some (.ak ct 0 n,.cells true true true 1 ((yz n (0:Int)).map aa)):=fun ct=>by
  rw [Gb (sz:=1) (by omega) (by omega) (by rfl) (by rfl),Sn];rfl
 unfold af;rw [aq h];simp only [go_sem,ya,yb,CB,hv.len,<-hn,dc];generalize hq:D P L (.loop [0,1,6,7,8] Kf) _=q;obtain ⟨ex,s,rfl,tm,r,qs,rfl,rfl,t6,t7,hlen,hr,hd,aR⟩:=bV hq (au0 (P:=P) (L:=L) hv ha la h0 h1 a.length) ⟨a.length,0,[],by
  rw [wrap64 (by omega) (by omega),List.append_nil,<-hn]
  simp only [go_sem,ya,yb,av,az hv.pu,aE _ hv.pu]<;>rfl,rfl,by simp,h0,rfl,by rw [xh (yB _)];simp [dv]⟩
 have mO:=fN true qs;rw [hlen] at mO;obtain ⟨w,e1,hw,gO⟩:=CF dj mO (by omega);have fS:dv a/d=dv qs/\dv a%d=r:=(Nat.div_mod_unique h0).2 ⟨by omega,hr⟩;refine ⟨w,eH qs,?_,hw,gO,hw.bN,BT hd,FJ qs,by rw [Af,fS.1]⟩;have ig:∀hp:Hp,mJ 0 a.length (some (true,1,qs.map aa,hp))=some (.aO true a.length (qs.map aa),hp):=fun hp=>my true (by simp [hlen]) (by decide)
 rw [fS.2];simp only [go_sem,ya,yb,av,t6,t7,ig,e1,gO];rcases hw with ⟨rfl,_⟩ | ⟨e,rfl⟩<;>rfl
def ayk (h:Has P L 279 GM) (Wl:Has P L 295 KX) (oX:Has P L 296 zo) (Qa:Has P L 297 KY) (od:Has P L 302 zp) (iY:Has P L 294 CA) (dj:Has P L 300 mI) {v w:AV} {n m:Int} {K:Nat} (hK:K<=8000000000) (hv:kN v n) (hw:kN w m) (hn:n.natAbs<1000000000^K) (hm:m.natAbs<1000000000^K):
  ∃r,af P L 279 [v,w] r/\kN r (n+m):=by
 obtain ⟨x,a,rfl,hx,ha,na,va⟩:=hv;obtain ⟨y,b,rfl,hy,hb,nb,vb⟩:=hw;have la:=xp (jQ ha na (by rw [va];exact hn)) hK
 have lb:=xp (jQ hb nb (by rw [vb];exact hm)) hK
 by_cases hs:(decide (n<0)==decide (m<0))=true
 ·obtain ⟨z,out,e1,hz,hd,aR,hl⟩:=ayj Wl od hx hy ha hb (by omega) (by omega);have lo:out.length<=20000000000:=by omega
  obtain ⟨r,e2,hr⟩:=rM iY dj (decide (n<0)) hz hd lo;have e:cL (decide (n<0)) (dv out)=n+m:=by
   have zV:(n<0)=(m<0):=by simpa using eq_of_beq hs
   rw [aR,va,vb];unfold cL;by_cases h0:n<0
   ·have h1:m<0:=zV▸h0;simp only [h0,yq,yV];omega
   ·have h1:¬m<0:=zV▸h0;simp only [h0,yp,yA,yN];omega
  rw [e] at hr;obtain ⟨w2,l2,rfl,iz,et,jh,A2⟩:=hr;refine ⟨_,?_,w2,l2,rfl,iz,et,jh,A2⟩;unfold af at e1 e2 ⊢;rw [aq h];simp only [go_sem,ya,yb,GM,aG,hx.pu,hx.ah,hx.one,hy.pu,hy.ah,hy.one,hz.ah,iz.pu,iz.one,aZ,yd,cC,e1,n7,dA,hs,e2,fB,bB];rcases iz with ⟨rfl,_⟩ | ⟨e,rfl⟩<;>rfl
 ·have hs:(decide (n<0)==decide (m<0))=false:=by simpa using hs
  have zV:¬((n<0)=(m<0)):=fun e=>by simp [e] at hs
  have ec:=Wj oX hx hy ha hb na nb (by omega) (by omega);by_cases hc:dv a<dv b
  ·have eR:eE (dv a) (dv b)= -1:=by unfold eE;rw [yF hc]
   rw [eR] at ec;obtain ⟨z,out,e1,hz,gO,hd,Db,aR⟩:=aid Qa od dj hy hx hb ha nb na (by omega) (by omega);have lo:out.length<=20000000000:=by
    refine jQ hd Db ?_
    have:=kD hb
    have hk:∀K,b.length<=K->dv out<1000000000^K:=fun K h=>yL (show dv out<1000000000^b.length by omega) (xk (by decide) h)
    exact hk 20000000000 (by omega)
   obtain ⟨r,e2,hr⟩:=rM iY dj (decide (m<0)) hz hd lo;have e:cL (decide (m<0)) (dv out)=n+m:=by
    rw [va,vb] at aR;unfold cL;by_cases h0:m<0
    ·have h1:¬n<0:=fun h1=>zV (by simp [h0,h1])
     simp only [h0,yq,yV];omega
    ·have h1:n<0:=by
      by_cases h1:n<0
      ·exact h1
      ·exact absurd (by simp [h0,h1]) zV
     simp only [h0,yp,yA,yN];omega
   rw [e] at hr;obtain ⟨w2,l2,rfl,iz,et,jh,A2⟩:=hr;refine ⟨_,?_,w2,l2,rfl,iz,et,jh,A2⟩;unfold af at e1 e2 ec ⊢;rw [aq h];simp only [go_sem,ya,yb,GM,aG,hx.pu,hx.ah,hx.one,hy.pu,hy.ah,hy.one,hz.ah,hz.shut,iz.pu,iz.one,aZ,yd,cC,e1,n7,dA,hs,ec,show ¬(0:Int)<=-1 by decide,e2,fB,bB];rcases iz with ⟨rfl,_⟩ | ⟨e,rfl⟩<;>rfl
  ·have eR:(0:Int)<=eE (dv a) (dv b):=by unfold eE;rw [yr hc];split<;>decide
   obtain ⟨z,out,e1,hz,gO,hd,Db,aR⟩:=aid Qa od dj hx hy ha hb na nb (by omega) (by omega);have lo:out.length<=20000000000:=by
    refine jQ hd Db ?_
    have:=kD ha
    have hk:∀K,a.length<=K->dv out<1000000000^K:=fun K h=>yL (show dv out<1000000000^a.length by omega) (xk (by decide) h)
    exact hk 20000000000 (by omega)
   obtain ⟨r,e2,hr⟩:=rM iY dj (decide (n<0)) hz hd lo;have e:cL (decide (n<0)) (dv out)=n+m:=by
    rw [va,vb] at aR;unfold cL;by_cases h0:n<0
    ·have h1:¬m<0:=fun h1=>zV (by simp [h0,h1])
     simp only [h0,yq,yV];omega
    ·have h1:m<0:=by
      by_cases h1:m<0
      ·exact h1
      ·exact absurd (by simp [h0,h1]) zV
     simp only [h0,yp,yA,yN];omega
   rw [e] at hr;obtain ⟨w2,l2,rfl,iz,et,jh,A2⟩:=hr;refine ⟨_,?_,w2,l2,rfl,iz,et,jh,A2⟩;unfold af at e1 e2 ec ⊢;rw [aq h];simp only [go_sem,ya,yb,GM,aG,hx.pu,hx.ah,hx.one,hy.pu,hy.ah,hy.one,hz.ah,hz.shut,iz.pu,iz.one,aZ,yd,cC,e1,n7,dA,hs,ec,eR,e2,fB,bB];rcases iz with ⟨rfl,_⟩ | ⟨e,rfl⟩<;>rfl
end
end
section
open Go (IntKind)
section
variable {P:aI} {L:Lib}
def ad6 {l:List Int} (hd:dg l) (hn:nz l) (h:dv l<1000000000):l.length<=1:=jQ hd hn (by simpa using h)
def ayl (h:Has P L 289 zn) (oX:Has P L 296 zo) (qB:Has P L 299 CB) (dj:Has P L 300 mI) {v w:AV} {a b:List Int} (hv:bq v a) (hw:bq w b) (ha:dg a) (hb:dg b) (na:nz a) (nb:nz b) (la:a.length<=20000000000) (lb:b.length<=1) (h0:0<dv b):
  ∃q r lq lr,af P L 289 [v,w] (.aw [q,r])/\bq q lq/\bq r lr/\dg lq/\nz lq/\dg lr/\nz lr/\dv lq=dv a/dv b/\dv lr=dv a%dv b:=by
 have ec:=Wj oX hv hw ha hb na nb la (by omega);by_cases hc:dv a<dv b
 ·have eR:eE (dv a) (dv b)= -1:=by unfold eE;rw [yF hc]
  rw [eR] at ec;refine ⟨.ae,v,[],a,?_,rk,hv,rfl,rfl,ha,na,?_,?_⟩
  ·unfold af;rw [aq h];simp only [go_sem,ya,zn,hv.ah,hw.ah,ec,show (-1:Int)<0 by decide];rcases hv with ⟨rfl,_⟩ | ⟨e,rfl⟩<;>rfl
  ·rw [Nat.div_eq_of_lt hc];rfl
  ·rw [Nat.mod_eq_of_lt hc]
 ·have eR:¬eE (dv a) (dv b)<0:=by unfold eE;rw [yr hc];split<;>decide
  have og:b.length=1:=by
   rcases xu b.length with e | e
   ·rw [List.eq_nil_of_length_eq_zero e] at h0;simp [dv] at h0
   ·omega
  obtain ⟨x,rfl⟩:∃x,b=[x]:=by
   cases b with
   | nil=>simp at og
   | cons x r=>cases r with
    | nil=>exact ⟨x,rfl⟩
    | cons y r=>simp at og
  have gx:=lP.1 hb;obtain ⟨d,hd⟩:∃d:Nat,x=d:=⟨x.toNat,by omega⟩;subst hd;have hdd:dv [((d:Nat):Int)]=d:=by simp [dv]
  rw [hdd] at h0 hc eR ec ⊢;obtain ⟨q,lq,e1,hq,hqs,aym,dq,nq,vq⟩:=aie qB dj hv ha la h0 (by omega);have ag4:dv a%d<d:=xD _ h0;generalize dv a%d=m at*
  obtain ⟨r,e2,hr,HK⟩:=CF dj (fN true [(m:Int)]) (by simp);refine ⟨q,r,lq,eH [(m:Int)],?_,hq,hr,dq,nq,BT (lP.2 (by omega)),FJ _,vq,by rw [Af];simp [dv]⟩;have e3:=hw.aY (i:=0) (by simp);simp only [yy,yG,yd,List.map_cons,List.map_nil,List.getElem_cons_zero] at e2 e3;unfold af;rw [aq h];simp only [go_sem,ya,yb,yt,Nat.reduceLeDiff,yi,zn,hv.ah,hw.len,hw.ah,ec,eR,yy,yG,show ((1:Nat):Int)=(1:Int) from rfl,yq,e3,e1,aym,e2,HK];rcases hq with ⟨rfl,_⟩ | ⟨e,rfl⟩<;>rcases hr with ⟨rfl,_⟩ | ⟨e',rfl⟩<;>rfl
end
end
section
open Go (IntKind)
def sv:List Int->Int
 | []=>0
 | a::r=>a+1000000000*sv r
def abx:∀(a b:List Int),sv (a++b)=sv a+1000000000^a.length*sv b
 | [],b=>by simp [sv]
 | x::a,b=>by
  simp only [List.cons_append,sv,abx a b,yy,uJ,uO]
  grind
def au1 (x:Int):sv [x]=x:=by simp [sv]
def Gh:∀{l:List Int} {i:Nat} {x:Int},i<l.length->sv (l.set i x)=sv l+1000000000^i*(x-l.getD i 0)
 | [],i,x,h=>by simp at h
 | a::l,0,x,_=>by simp [sv];omega
 | a::l,i+1,x,h=>by
  have ih:=Gh (l:=l) (i:=i) (x:=x) (by simpa using h);simp only [List.set_cons_succ,sv,List.getD_cons_succ,ih,uJ,uO]
  grind
def Oh {l:List Int} (i:Nat):sv (l.take (i+1))=sv (l.take i)+1000000000^i*l.getD i 0:=by
 by_cases h:i<l.length
 ·rw [List.take_succ_eq_append_getElem h,abx,yS,xY (by omega),au1]
  grind
 ·rw [yK (by omega),yK (by omega),JB (by omega),Int.mul_zero,Int.add_zero]
def AN:∀{l:List Int},dg l->sv l=dv l
 | [],_=>rfl
 | a::l,h=>by
  obtain ⟨h1,h2⟩:=ik.1 (show dg ([a]++l) from h);have h1:=lP.1 h1;simp only [sv,dv,AN h2,vC,xS];omega
section
variable {pre x post:List Int} {i:Nat}
def oM:(pre++x++post).length=pre.length+x.length+post.length:=by grind
def Cb (h:i<x.length):(pre++x++post).getD (pre.length+i) 0=x.getD i 0:=by grind
def Oy (a:Int) (h:i<x.length):(pre++x++post).set (pre.length+i) a=pre++x.set i a++post:=by simp_all
end
def afV {l:List Int} {i m:Nat} {x:Int} (h:i≠m):(l.set i x).getD m 0=l.getD m 0:=by simp_all
def anw {l:List Int} {i:Nat} {x:Int} (h:i<l.length):(l.set i x).getD i 0=x:=by simp_all
abbrev H3 (q u:List Int) (f:Int):Hp:=[(2,.cells true true true 1 (q.map aa)),(1,.cells true true false 1 (u.map aa)),(0,.cells false true true 1 [aa f])]
def NS {live:List Nat} {tm:Env} {ct:Nat} {a b c:List AV} (ht:kA 3 (dE tm live)) (hl:(fo (dE tm live)).length<100000):
  bA live ⟨tm,[(2,.cells true true true 1 a),(1,.cells true true false 1 b),(0,.cells false true true 1 c)],ct,3⟩=⟨dE tm live,[(2,.cells true true true 1 a),(1,.cells true true false 1 b),(0,.cells false true true 1 c)],3,3⟩:=
 MZ ht ⟨by omega,.inl rfl,by omega,.inl rfl,by omega,.inl rfl,trivial⟩ (by
  have:dC 3 [(2,Obj.cells true true true 1 a),(1,Obj.cells true true false 1 b),(0,Obj.cells false true true 1 c)]=[]:=rfl
  rw [this,yG,yZ];exact hl)
structure gP (x vs:List Int) (n v1 v2 u0 u1 u2:Nat):Prop where
 n2:2<=n
 nb:n<=20000000000
 lx:x.length=n+1
 lv:vs.length=n
 gx:dg x
 gv:dg vs
 eN:vs.getD (n-1) 0=(v1:Int)
 di:vs.getD (n-2) 0=(v2:Int)
 h0:x.getD n 0=(u0:Int)
 h1:x.getD (n-1) 0=(u1:Int)
 h2:x.getD (n-2) 0=(u2:Int)
 pos:0<v1
 lt:dv x<1000000000*dv vs
section
variable {x vs:List Int} {n v1 v2 u0 u1 u2:Nat}
def gP.Mh (h:gP x vs n v1 v2 u0 u1 u2):v1<1000000000:=by have:=iD h.gv (n-1);rw [h.eN] at this;omega
def gP.EY (h:gP x vs n v1 v2 u0 u1 u2):v2<1000000000:=by have:=iD h.gv (n-2);rw [h.di] at this;omega
def gP.XS (h:gP x vs n v1 v2 u0 u1 u2):u0<1000000000:=by have:=iD h.gx n;rw [h.h0] at this;omega
def gP.Mi (h:gP x vs n v1 v2 u0 u1 u2):u1<1000000000:=by have:=iD h.gx (n-1);rw [h.h1] at this;omega
def gP.Mj (h:gP x vs n v1 v2 u0 u1 u2):u2<1000000000:=by have:=iD h.gx (n-2);rw [h.h2] at this;omega
def gP.parts (h:gP x vs n v1 v2 u0 u1 u2):∃p vr ur,dv vs=(v1*1000000000+v2)*p+vr/\vr<p/\dv x=((u0*1000000000+u1)*1000000000+u2)*p+ur/\ur<p:=by
 obtain ⟨m,hm⟩:∃m,n=m+2:=⟨n-2,by have:=h.n2;omega⟩;subst hm;have e1:=pM (l:=vs) (m+1);have e2:=pM (l:=vs) m;have f0:=pM (l:=x) (m+2);have f1:=pM (l:=x) (m+1);have f2:=pM (l:=x) m;have eN:vs.getD (m+1) 0=(v1:Int):=h.eN;have di:vs.getD m 0=(v2:Int):=h.di;have h0:x.getD (m+2) 0=(u0:Int):=h.h0;have h1:x.getD (m+1) 0=(u1:Int):=h.h1;have h2:x.getD m 0=(u2:Int):=h.h2
 rw [yK (by have:=h.lv;omega),eN,e2,di] at e1
 rw [yK (by have:=h.lx;omega),h0,f1,h1,f2,h2] at f0;simp only [wo] at e1 f0;have g1:=kD (DG h.gv m)
 rw [yS,xY (by have:=h.lv;omega)] at g1;have g2:=kD (DG h.gx m)
 rw [yS,xY (by have:=h.lx;omega)] at g2;refine ⟨1000000000^m,_,_,?_,g1,?_,g2⟩
 ·rw [e1,xj,awm]
 ·rw [f0,show 1000000000^(m+2)=1000000000^m*1000000000*1000000000 by rw [xj,xj],xj,awn]
def gP.down (h:gP x vs n v1 v2 u0 u1 u2) {t r:Nat} (ht:t*v1+r=u0*1000000000+u1) (hr:r*1000000000+u2<t*v2):dv x/dv vs<=t-1:=by
 obtain ⟨p,vr,ur,h1,h2,h3,h4⟩:=h.parts;exact aaq h1 h3 h4 ht hr
def gP.stop (h:gP x vs n v1 v2 u0 u1 u2) {t r:Nat} (lG:t<1000000000) (ht:t*v1+r=u0*1000000000+u1) (hr:1000000000<=r\/t*v2<=r*1000000000+u2):t<=dv x/dv vs+1:=by
 obtain ⟨p,vr,ur,h1,h2,h3,h4⟩:=h.parts;exact abh (by decide) h1 h2 h3 h.pos h.EY lG ht hr
def gP.first (h:gP x vs n v1 v2 u0 u1 u2):dv x/dv vs<=(u0*1000000000+u1)/v1:=by
 obtain ⟨p,vr,ur,h1,h2,h3,h4⟩:=h.parts;exact R1 h1 h3 h4 h.Mj h.pos
def gP.top (h:gP x vs n v1 v2 u0 u1 u2):u0<=v1:=by
 obtain ⟨p,vr,ur,h1,h2,h3,h4⟩:=h.parts;exact abi h1 h3 h2 h.EY h.lt
def gP.digit (h:gP x vs n v1 v2 u0 u1 u2):dv x/dv vs<1000000000:=by
 refine (wH ?_).2 h.lt;rcases xu (dv vs) with h0 | h0
 ·have:=h.lt;rw [h0] at this;simp at this
 ·exact h0
def gP.small (h:gP x vs n v1 v2 u0 u1 u2) {t r:Nat} (ht:t*v1+r=u0*1000000000+u1) (hb:1000000000<=t):r<1000000000:=by
 have h1:=h.top;have h2:=h.Mi;have h3:=Nat.mul_le_mul_right v1 hb
 grind
end
def ayn {r u:Nat} (hr:r<1000000000) (hu:u<1000000000):r*1000000000<9223372036854775808/\r*1000000000+u<9223372036854775808:=by omega
section
variable {P:aI} {L:Lib}
def arZ {w:AV} {x vs pre post qs:List Int} {f:Int} (hw:bq w vs) {n v1 v2 u0 u1 u2 M:Nat} (hl:gP x vs n v1 v2 u0 u1 u2) (hM:M=pre.length+x.length+post.length) (MA:M<=50000000000):
  ∀k s,(∃t r:Nat,bA [0,1,2,7,9,10] s=⟨[(0,.ak 1 0 M),(1,w),(2,aa pre.length),(7,aa n),(9,aa t),(10,aa r)],H3 qs (pre++x++post) f,3,3⟩/\t*v1+r=u0*1000000000+u1/\r<1000000000/\dv x/dv vs<=t/\t=k)->
   ∃ex s',D P L (.loop [0,1,2,7,9,10] B7) s=some (ex,s')/\∃tm ct t,s'=⟨tm,H3 qs (pre++x++post) f,ct,3⟩/\((ex= .exit 0/\ab tm 9=aa (t:Nat))\/(ex= .ret/\ab tm 6=aa (t:Nat)))/\ct=3/\t<1000000000/\dv x/dv vs<=t/\t<=dv x/dv vs+1:=by
 refine cg (I:=fun k s=>∃t r:Nat,s=⟨[(0,.ak 1 0 M),(1,w),(2,aa pre.length),(7,aa n),(9,aa t),(10,aa r)],H3 qs (pre++x++post) f,3,3⟩/\t*v1+r=u0*1000000000+u1/\r<1000000000/\dv x/dv vs<=t/\t=k)
  (Q:=fun ex s'=>∃tm ct t,s'=⟨tm,H3 qs (pre++x++post) f,ct,3⟩/\((ex= .exit 0/\ab tm 9=aa (t:Nat))\/(ex= .ret/\ab tm 6=aa (t:Nat)))/\ct=3/\t<1000000000/\dv x/dv vs<=t/\t<=dv x/dv vs+1) ?_
 rintro k s ⟨t,r,rfl,ht,hr,hQ,rfl⟩;have eQ:=hl.n2;have qR:=hl.nb;have hlx:=hl.lx;have GX:=hl.Mh;have VV:=hl.EY;have ahP:=hl.Mj;have ayo:=hl.XS;have P4:=hl.Mi;have CI:=hl.pos;have qW:=rE hw (i:=n-2) (by have:=hl.lv;omega);have fq:=rE hw (i:=n-1) (by have:=hl.lv;omega);rw [hl.di] at qW;rw [hl.eN] at fq;have zY:=ze (l:=pre++x++post) (o:=pre.length+(n-2)) (by rw [oM];omega);rw [Cb (by omega),hl.h2] at zY;have Bv:(n:Int)-2=((n-2:Nat):Int):=by omega
 have qX:(n:Int)-1=((n-1:Nat):Int):=by omega
 have MB:(pre.length:Int)+(n:Int)=((pre.length+n:Nat):Int):=rfl;have Yg:((pre.length+n:Nat):Int)-2=((pre.length+(n-2):Nat):Int):=by omega
 have aCg:t<=1000000000000000000:=by
  have:=yQ t CI
  omega
 have aCh:t*1<=t*v1:=yQ t CI;obtain ⟨Yh,Yi⟩:=ayn hr ahP;by_cases zW:1000000000<=t\/r*1000000000+u2<t*v2
 ·have Yj:0<t:=by
   rcases xu t with h0 | h0
   ·subst h0;omega
   ·exact h0
  have h1:(t-1)*v1+(r+v1)=u0*1000000000+u1:=by
   obtain ⟨p,rfl⟩:∃p,t=p+1:=⟨t-1,by omega⟩;rw [wZ,Nat.one_mul] at ht;rw [Nat.add_sub_cancel];omega
  have Bw:dv x/dv vs<=t-1:=by
   rcases zW with h | h
   ·have:=hl.digit;generalize dv x/dv vs=q at*;omega
   ·exact hl.down ht h
  have Rr:((t:Nat):Int)-1=((t-1:Nat):Int):=by omega
  have stop:1000000000<=r+v1->t-1<1000000000/\t-1<=dv x/dv vs+1:=fun hb=>by
   have bm:t-1<1000000000:=by
    by_cases zK:1000000000<=t-1
    ·have:=hl.small h1 zK;omega
    ·omega
   exact ⟨bm,hl.stop bm h1 (.inl hb)⟩
  by_cases hb:1000000000<=t
  ·by_cases dQ:1000000000<=r+v1
   ·right
    obtain ⟨s1,s2⟩:=stop dQ
    simp only [go_sem,ya,B7,H3,show (1000000000:Int)<=(t:Int) by omega,Rr,wrapN (n:=t-1) (by omega),qX,wrapN (n:=n-1) (by omega),fq,show (r:Int)+(v1:Int)=((r+v1:Nat):Int) from rfl,wrapN (n:=r+v1) (by omega),show (1000000000:Int)<=((r+v1:Nat):Int) by omega];exact ⟨_,_,rfl,by simp,_,_,t-1,rfl,.inr ⟨rfl,by simp only [go_sem]⟩,rfl,s1,Bw,s2⟩
   ·left
    simp only [go_sem,ya,B7,H3,show (1000000000:Int)<=(t:Int) by omega,Rr,wrapN (n:=t-1) (by omega),qX,wrapN (n:=n-1) (by omega),fq,show (r:Int)+(v1:Int)=((r+v1:Nat):Int) from rfl,wrapN (n:=r+v1) (by omega),show ¬(1000000000:Int)<=((r+v1:Nat):Int) by omega];refine ⟨_,t-1,rfl,by omega,t-1,r+v1,?_,h1,by omega,Bw,rfl⟩;rw [NS (by simp only [go_sem,ya,yt,ni,nW,nc,mZ,mv hw.pu,wF]) (by simp only [go_sem,ya,yb,yt,az hw.pu])];simp only [go_sem,ya]
  ·have rZ:=xL (show t<=999999999 by omega) (show v2<=999999999 by omega);have Wm:r*1000000000+u2<t*v2:=zW.resolve_left hb;obtain ⟨m,hm⟩:∃m,t*v2=m:=⟨_,rfl⟩;have em:(t:Int)*(v2:Int)=(m:Int):=by rw [<-hm,xS]
   rw [hm] at Wm rZ;have HC:(r:Int)*1000000000=((r*1000000000:Nat):Int):=by omega
   have C7:((r*1000000000:Nat):Int)+(u2:Int)=((r*1000000000+u2:Nat):Int):=rfl;by_cases dQ:1000000000<=r+v1
   ·right
    obtain ⟨s1,s2⟩:=stop dQ
    simp only [go_sem,ya,yi,B7,H3,show ¬(1000000000:Int)<=(t:Int) by omega,Bv,wrapN (n:=n-2) (by omega),qW,em,wrapN (n:=m) (by omega),HC,wrapN Yh,MB,wrapN (n:=pre.length+n) (by omega),Yg,wrapN (n:=pre.length+(n-2)) (by omega),dH 1 0 (show pre.length+(n-2)<M by omega),yd,zY,C7,wrapN Yi,show ((r*1000000000+u2:Nat):Int)<(m:Int) from ui.2 Wm,Rr,wrapN (n:=t-1) (by omega),qX,wrapN (n:=n-1) (by omega),fq,show (r:Int)+(v1:Int)=((r+v1:Nat):Int) from rfl,wrapN (n:=r+v1) (by omega),show (1000000000:Int)<=((r+v1:Nat):Int) by omega];exact ⟨_,_,rfl,by simp,_,_,t-1,rfl,.inr ⟨rfl,by simp only [go_sem]⟩,rfl,s1,Bw,s2⟩
   ·left
    simp only [go_sem,ya,yi,B7,H3,show ¬(1000000000:Int)<=(t:Int) by omega,Bv,wrapN (n:=n-2) (by omega),qW,em,wrapN (n:=m) (by omega),HC,wrapN Yh,MB,wrapN (n:=pre.length+n) (by omega),Yg,wrapN (n:=pre.length+(n-2)) (by omega),dH 1 0 (show pre.length+(n-2)<M by omega),yd,zY,C7,wrapN Yi,show ((r*1000000000+u2:Nat):Int)<(m:Int) from ui.2 Wm,Rr,wrapN (n:=t-1) (by omega),qX,wrapN (n:=n-1) (by omega),fq,show (r:Int)+(v1:Int)=((r+v1:Nat):Int) from rfl,wrapN (n:=r+v1) (by omega),show ¬(1000000000:Int)<=((r+v1:Nat):Int) by omega];refine ⟨_,t-1,rfl,by omega,t-1,r+v1,?_,h1,by omega,Bw,rfl⟩;rw [NS (by simp only [go_sem,ya,yt,ni,nW,nc,mZ,mv hw.pu,wF]) (by simp only [go_sem,ya,yb,yt,az hw.pu])];simp only [go_sem,ya]
 ·right
  have lG:t<1000000000:=Nat.lt_of_not_le fun e=>zW (.inl e)
  have rZ:=xL (show t<=999999999 from tq lG) (show v2<=999999999 from tq VV);have Wn:t*v2<=r*1000000000+u2:=Nat.le_of_not_lt fun e=>zW (.inr e)
  have awx:=hl.stop lG ht (.inr Wn);obtain ⟨m,hm⟩:∃m,t*v2=m:=⟨_,rfl⟩;have em:(t:Int)*(v2:Int)=(m:Int):=by rw [<-hm,xS]
  rw [hm] at Wn rZ;have HC:(r:Int)*1000000000=((r*1000000000:Nat):Int):=by omega
  have C7:((r*1000000000:Nat):Int)+(u2:Int)=((r*1000000000+u2:Nat):Int):=rfl
  simp only [go_sem,ya,yi,B7,H3,show ¬(1000000000:Int)<=(t:Int) by omega,Bv,wrapN (n:=n-2) (by omega),qW,em,wrapN (n:=m) (by omega),HC,wrapN Yh,MB,wrapN (n:=pre.length+n) (by omega),Yg,wrapN (n:=pre.length+(n-2)) (by omega),dH 1 0 (show pre.length+(n-2)<M by omega),yd,zY,C7,wrapN Yi,show ¬((r*1000000000+u2:Nat):Int)<(m:Int) from fun e=>Nat.not_lt_of_le Wn (ui.1 e)];exact ⟨_,_,rfl,by simp,_,_,t,rfl,.inl ⟨rfl,by simp only [go_sem,ya]⟩,rfl,lG,hQ,awx⟩
def awy (h:Has P L 301 AX) {w:AV} {x vs pre post qs:List Int} {f:Int} (hw:bq w vs) {n v1 v2 u0 u1 u2 M:Nat} (hl:gP x vs n v1 v2 u0 u1 u2) (hM:M=pre.length+x.length+post.length) (MA:M<=50000000000):
  ∃t:Nat,iS P L (D P L) (H3 qs (pre++x++post) f) 3 301 [.ak 1 0 M,w,aa pre.length]=some (aa t,H3 qs (pre++x++post) f,3)/\t<1000000000/\dv x/dv vs<=t/\t<=dv x/dv vs+1:=by
 have eQ:=hl.n2;have qR:=hl.nb;have hlx:=hl.lx;have zZ:below 3 w:=mv hw.pu;have GX:=hl.Mh;have ayo:=hl.XS;have P4:=hl.Mi;have CI:=hl.pos;have fq:=rE hw (i:=n-1) (by have:=hl.lv;omega);rw [hl.eN] at fq;have C9:=ze (l:=pre++x++post) (o:=pre.length+n) (by rw [oM];omega);rw [Cb (by omega),hl.h0] at C9;have Da:=ze (l:=pre++x++post) (o:=pre.length+(n-1)) (by rw [oM];omega);rw [Cb (by omega),hl.h1] at Da;have qX:(n:Int)-1=((n-1:Nat):Int):=by omega
 have MB:(pre.length:Int)+(n:Int)=((pre.length+n:Nat):Int):=rfl;have pn1:((pre.length+n:Nat):Int)-1=((pre.length+(n-1):Nat):Int):=by omega
 obtain ⟨m,hm⟩:∃m,m=u0*1000000000+u1:=⟨_,rfl⟩;have em:(u0:Int)*1000000000=((u0*1000000000:Nat):Int):=by omega
 have em2:((u0*1000000000:Nat):Int)+(u1:Int)=(m:Int):=by omega
 have fS:=wC m v1;have rL:=xD m CI;have Ox:=hl.first;rw [<-hm] at Ox;have aCt:m/v1<=m:=Nat.div_le_self _ _;have oq:IntKind.wrap .i64 ((m:Int).tdiv (v1:Int))=((m/v1:Nat):Int):=by
  rw [xE (by omega),<-Int.natCast_ediv,wrapN (by omega)]
 have or':(m:Int).tmod (v1:Int)=((m%v1:Nat):Int):=by rw [y9 (by omega),<-Int.natCast_emod]
 rw [xQ] at fS;generalize m/v1=q0 at*
 generalize m%v1=r0 at*
 have jz:∃ex tm t,D P L AX.body ⟨fM 0 [.ak 1 0 M,w,aa pre.length],H3 qs (pre++x++post) f,3,3⟩=some (ex,⟨tm,H3 qs (pre++x++post) f,3,3⟩)/\(ex= .normal\/ex= .ret)/\ab tm 6=aa (t:Nat)/\t<1000000000/\dv x/dv vs<=t/\t<=dv x/dv vs+1:=by
  simp only [go_sem,ya,yi,AX,H3,hw.len,hl.lv,MB,wrapN (n:=pre.length+n) (by omega),dH 1 0 (show pre.length+n<M by omega),yd,C9,em,wrapN (n:=u0*1000000000) (by omega),pn1,wrapN (n:=pre.length+(n-1)) (by omega),dH 1 0 (show pre.length+(n-1)<M by omega),Da,em2,wrapN (n:=m) (by omega),qX,wrapN (n:=n-1) (by omega),fq,eU _ _ _ (show (v1:Int)≠0 by omega),dK _ _ _ (show (v1:Int)≠0 by omega),oq,or'];generalize mT:D P L (.loop [0,1,2,7,9,10] B7) _=qq;obtain ⟨ex,s,rfl,tm,ct,t,rfl,zq,rfl,g1,g2,g3⟩:=bV mT (arZ (P:=P) (L:=L) (qs:=qs) (f:=f) hw hl hM MA q0) ⟨q0,r0,by
   rw [NS (by simp only [go_sem,ya,yt,ni,nW,nc,mZ,zZ,wF]) (by simp only [go_sem,ya,yb,yt,az hw.pu])]
   simp only [go_sem,ya],by omega,by omega,Ox,rfl⟩
  rcases zq with ⟨rfl,h9⟩ | ⟨rfl,h6⟩
  ·simp only [go_sem,yt,H3,NS,ni,nc,mZ,h9,and_self];exact ⟨_,_,t,rfl,.inr rfl,by simp only [go_sem],g1,g2,g3⟩
  ·simp only [go_sem];exact ⟨_,_,t,rfl,.inr rfl,h6,g1,g2,g3⟩
 obtain ⟨ex,tm,t,g1,g2,g3,g4,g5,g6⟩:=jz;exact ⟨t,DI h g1 g2 (by show gX _ [RV.t 6]=_;rw [GS,Gw,g3]),g4,g5,g6⟩
end
end
section
open Go (IntKind)
def ayp {t v bo:Int} (ht:0<=t/\t<1000000000) (hv:0<=v/\v<1000000000) (hb:0<=bo/\bo<1000000000):0<=t*v/\t*v<=999999998000000001/\0<=t*v+bo/\t*v+bo<=999999999000000000:=by
 have h1:=vM ht.1 hv.1;have h2:=ybq (show t<=999999999 by omega) (show v<=999999999 by omega) hv.1 (by decide);omega
def ayq {x p:Int} (hx:0<=x/\x<1000000000) (hp:0<=p/\p<=999999999000000000):
  (x-p.tmod 1000000000<0->0<=x-p.tmod 1000000000+1000000000/\x-p.tmod 1000000000+1000000000<1000000000/\0<=p.tdiv 1000000000+1/\p.tdiv 1000000000+1<1000000000/\x-p.tmod 1000000000+1000000000+p=x+1000000000*(p.tdiv 1000000000+1))/\
  (¬x-p.tmod 1000000000<0->x-p.tmod 1000000000<1000000000/\0<=p.tdiv 1000000000/\p.tdiv 1000000000<1000000000/\x-p.tmod 1000000000+p=x+1000000000*p.tdiv 1000000000):=by grind
def Ua {l:List Int} (h:dg l) {i:Nat} {z:Int} (hz:0<=z/\z<1000000000):dg (l.set i z):=On h hz
def ar0 {b p z q v bo Bx x X Y S:Int} (h2:z+(q*v+bo)=x+b*Bx) (h3:Y+q*X=S+p*bo):(Y+p*(z-x))+q*(X+p*v)=S+p*b*Bx:=by grind
section
variable {P:aI} {L:Lib}
def ar1 {w:AV} {x vs pre post qs:List Int} {f:Int} (hw:bq w vs) {n M m:Nat} (lv:vs.length=n) (hM:M=pre.length+(n+1)+post.length) (MA:M<=50000000000) (gv:dg vs) {t:Int} (ht:0<=t/\t<1000000000):
  ∀k s,(∃(i:Nat) (bo:Int) (y:List Int),bA [8,9,10,11,12,13,14,15,16] s=⟨[(8,.ak 0 0 1),(9,w),(10,aa n),(11,.ak 1 0 M),(12,.ak 2 0 m),(13,aa pre.length),(14,aa t),(15,aa bo),(16,aa i)],H3 qs (pre++y++post) f,3,0⟩/\i+k=n/\y.length=n+1/\dg y/\(0<=bo/\bo<1000000000)/\
    sv y+t*sv (vs.take i)=sv x+1000000000^i*bo)->
   ∃ex s',D P L (.loop [8,9,10,11,12,13,14,15,16] F3) s=some (ex,s')/\∃tm bo y,s'=⟨tm,H3 qs (pre++y++post) f,3,0⟩/\ex= .exit 4/\ab tm 8= .ak 0 0 1/\ab tm 9=w/\ab tm 10=aa n/\ab tm 11= .ak 1 0 M/\ab tm 12= .ak 2 0 m/\ab tm 13=aa pre.length/\ab tm 14=aa t/\ab tm 15=aa bo/\y.length=n+1/\dg y/\(0<=bo/\bo<1000000000)/\
    sv y+t*sv vs=sv x+1000000000^n*bo:=by
 refine cg (I:=fun k s=>∃(i:Nat) (bo:Int) (y:List Int),s=⟨[(8,.ak 0 0 1),(9,w),(10,aa n),(11,.ak 1 0 M),(12,.ak 2 0 m),(13,aa pre.length),(14,aa t),(15,aa bo),(16,aa i)],H3 qs (pre++y++post) f,3,0⟩/\i+k=n/\y.length=n+1/\dg y/\(0<=bo/\bo<1000000000)/\
    sv y+t*sv (vs.take i)=sv x+1000000000^i*bo)
  (Q:=fun ex s'=>∃tm bo y,s'=⟨tm,H3 qs (pre++y++post) f,3,0⟩/\ex= .exit 4/\ab tm 8= .ak 0 0 1/\ab tm 9=w/\ab tm 10=aa n/\ab tm 11= .ak 1 0 M/\ab tm 12= .ak 2 0 m/\ab tm 13=aa pre.length/\ab tm 14=aa t/\ab tm 15=aa bo/\y.length=n+1/\dg y/\(0<=bo/\bo<1000000000)/\
    sv y+t*sv vs=sv x+1000000000^n*bo) ?_
 rintro k s ⟨i,bo,y,rfl,hk,ly,gy,jF,aR⟩;by_cases hi:i<n
 ·left
  have su:=iD gv i;have qY:=iD gy i;have ev:=rE hw (i:=i) (by omega);have ey:=ze (l:=pre++y++post) (o:=pre.length+i) (by rw [oM];omega);rw [Cb (by omega)] at ey;have eM:=Oh (l:=vs) i;obtain ⟨a,ha⟩:∃a,a=vs.getD i 0:=⟨_,rfl⟩;obtain ⟨d,hd⟩:∃d,d=y.getD i 0:=⟨_,rfl⟩;rw [<-ha] at su ev eM;rw [<-hd] at qY ey;obtain ⟨p1,p2,p3,p4⟩:=ayp ht su jF;obtain ⟨s1,s2⟩:=ayq qY ⟨p3,p4⟩;have fC:(i:Int)+(pre.length:Int)=((pre.length+i:Nat):Int):=by omega
  have bh:=fun (hp:Hp) (ct:Nat) (z:Int)=>Df (hp:=hp) (ct:=ct) (id:=1) (v:=z) (ex:=false) (l:=pre++y++post) (o:=pre.length+i) (by rw [oM];omega)
  have oU:=fun z=>Oy (pre:=pre) (x:=y) (post:=post) (i:=i) z (by omega)
  have bf:=fun z=>Gh (l:=y) (i:=i) (x:=z) (by omega)
  rw [<-hd] at bf;obtain ⟨pr,pc⟩:∃pr,pr=t*a+bo:=⟨_,rfl⟩;obtain ⟨dm,fS⟩:∃dm,pr.tmod 1000000000=dm:=⟨_,rfl⟩;obtain ⟨dq,E2⟩:∃dq,pr.tdiv 1000000000=dq:=⟨_,rfl⟩;have aCu:0<=dm/\dm<1000000000:=by rw [<-fS,y9 (by omega)];omega
  have aCv:0<=dq/\dq<1000000000:=by rw [<-E2,xE (by omega)];omega
  rw [<-pc,fS,E2] at s1 s2;have key:∀z Bx,z+(t*a+bo)=d+1000000000*Bx->sv (y.set i z)+t*sv (vs.take (i+1))=sv x+1000000000^(i+1)*Bx:=fun z Bx h=>by
   rw [bf,eM,uJ];exact ar0 h aR
  rw [<-pc] at key;by_cases fY:d-dm<0
  ·obtain ⟨q1,q2,q3,q4,q5⟩:=s1 fY;have kk:=key _ _ q5;obtain ⟨dr,iO⟩:∃dr,d-dm=dr:=⟨_,rfl⟩;rw [iO] at fY kk q1 q2
   simp only [go_sem,ya,yi,F3,H3,show (i:Int)<(n:Int) by omega,ev,wrap64 (n:=t*a) (by omega) (by omega),<-pc,wrap64 (n:=pr) (by omega) (by omega),fC,wrapN (n:=pre.length+i) (by omega),dH 1 0 (show pre.length+i<M by omega),yd,ey,dK _ _ _ (show (1000000000:Int)≠0 by decide),eU _ _ _ (show (1000000000:Int)≠0 by decide),fS,E2,iO,wrap64 (n:=dr) (by omega) (by omega),wrap64 (n:=dq) (by omega) (by omega),fY,wrap64 (n:=dr+1000000000) (by omega) (by omega),wrap64 (n:=dq+1) (by omega) (by omega),bh,oU];refine ⟨_,k-1,rfl,by omega,i+1,dq+1,y.set i (dr+1000000000),?_,by omega,by simp [ly],Ua gy ⟨q1,q2⟩,⟨q3,q4⟩,kk⟩;rw [wrap64 (by omega) (by omega)];simp only [go_sem,ya,yb,av,az hw.pu,aE _ hw.pu]<;>rfl
  ·obtain ⟨q2,q3,q4,q5⟩:=s2 fY;have kk:=key _ _ q5;obtain ⟨dr,iO⟩:∃dr,d-dm=dr:=⟨_,rfl⟩;rw [iO] at fY kk q2
   simp only [go_sem,ya,yi,F3,H3,show (i:Int)<(n:Int) by omega,ev,wrap64 (n:=t*a) (by omega) (by omega),<-pc,wrap64 (n:=pr) (by omega) (by omega),fC,wrapN (n:=pre.length+i) (by omega),dH 1 0 (show pre.length+i<M by omega),yd,ey,dK _ _ _ (show (1000000000:Int)≠0 by decide),eU _ _ _ (show (1000000000:Int)≠0 by decide),fS,E2,iO,wrap64 (n:=dr) (by omega) (by omega),wrap64 (n:=dq) (by omega) (by omega),fY,bh,oU];refine ⟨_,k-1,rfl,by omega,i+1,dq,y.set i dr,?_,by omega,by simp [ly],Ua gy ⟨by omega,q2⟩,⟨q3,q4⟩,kk⟩;rw [wrap64 (by omega) (by omega)];simp only [go_sem,ya,yb,av,az hw.pu,aE _ hw.pu]<;>rfl
 ·right
  have:i=n:=by omega
  subst this;rw [yK (by omega)] at aR;simp only [go_sem,ya,F3,H3,show ¬(i:Int)<(i:Int) by omega];exact ⟨_,_,rfl,by simp,_,bo,y,rfl,rfl,by simp only [go_sem,ya],by simp only [go_sem,ya],by simp only [go_sem,ya],by simp only [go_sem,ya],by simp only [go_sem,ya],by simp only [go_sem,ya],by simp only [go_sem,ya],by simp only [go_sem,ya],ly,gy,jF,aR⟩
def ar2 {b p z v c c' x X Y S:Int} (h2:z+b*c'=x+v+c) (h3:Y+p*c=S+X):(Y+p*(z-x))+p*b*c'=S+(X+p*v):=by grind
def ar3 {w:AV} {y0 vs pre post qs:List Int} {f:Int} (hw:bq w vs) {n M m:Nat} (lv:vs.length=n) (hM:M=pre.length+(n+1)+post.length) (MA:M<=50000000000) (gv:dg vs) {t top:Int}:
  ∀k s,(∃(i:Nat) (c:Int) (y:List Int),bA [8,9,10,11,12,13,14,19,20] s=⟨[(8,.ak 0 0 1),(9,w),(10,aa n),(11,.ak 1 0 M),(12,.ak 2 0 m),(13,aa pre.length),(14,aa t),(19,aa c),(20,aa i)],H3 qs (pre++y++post) f,3,0⟩/\i+k=n/\y.length=n+1/\dg (y.take n)/\y.getD n 0=top/\(0<=c/\c<=1)/\
    sv y+1000000000^i*c=sv y0+sv (vs.take i))->
   ∃ex s',D P L (.loop [8,9,10,11,12,13,14,19,20] J9) s=some (ex,s')/\∃tm c y,s'=⟨tm,H3 qs (pre++y++post) f,3,0⟩/\ex= .exit 6/\ab tm 8= .ak 0 0 1/\ab tm 9=w/\ab tm 10=aa n/\ab tm 11= .ak 1 0 M/\ab tm 12= .ak 2 0 m/\ab tm 13=aa pre.length/\ab tm 14=aa t/\ab tm 19=aa c/\y.length=n+1/\dg (y.take n)/\y.getD n 0=top/\(0<=c/\c<=1)/\
    sv y+1000000000^n*c=sv y0+sv vs:=by
 refine cg (I:=fun k s=>∃(i:Nat) (c:Int) (y:List Int),s=⟨[(8,.ak 0 0 1),(9,w),(10,aa n),(11,.ak 1 0 M),(12,.ak 2 0 m),(13,aa pre.length),(14,aa t),(19,aa c),(20,aa i)],H3 qs (pre++y++post) f,3,0⟩/\i+k=n/\y.length=n+1/\dg (y.take n)/\y.getD n 0=top/\(0<=c/\c<=1)/\
    sv y+1000000000^i*c=sv y0+sv (vs.take i))
  (Q:=fun ex s'=>∃tm c y,s'=⟨tm,H3 qs (pre++y++post) f,3,0⟩/\ex= .exit 6/\ab tm 8= .ak 0 0 1/\ab tm 9=w/\ab tm 10=aa n/\ab tm 11= .ak 1 0 M/\ab tm 12= .ak 2 0 m/\ab tm 13=aa pre.length/\ab tm 14=aa t/\ab tm 19=aa c/\y.length=n+1/\dg (y.take n)/\y.getD n 0=top/\(0<=c/\c<=1)/\
    sv y+1000000000^n*c=sv y0+sv vs) ?_
 rintro k s ⟨i,c,y,rfl,hk,ly,gy,oV,hc,aR⟩;by_cases hi:i<n
 ·left
  have su:=iD gv i;have qY:=iD gy i;have e0:(y.take n).getD i 0=y.getD i 0:=by
   simp [xJ,hi]
  rw [e0] at qY;have ev:=rE hw (i:=i) (by omega);have ey:=ze (l:=pre++y++post) (o:=pre.length+i) (by rw [oM];omega);rw [Cb (by omega)] at ey;have eM:=Oh (l:=vs) i;obtain ⟨a,ha⟩:∃a,a=vs.getD i 0:=⟨_,rfl⟩;obtain ⟨d,hd⟩:∃d,d=y.getD i 0:=⟨_,rfl⟩;rw [<-ha] at su ev eM;rw [<-hd] at qY ey;have fC:(i:Int)+(pre.length:Int)=((pre.length+i:Nat):Int):=by omega
  have bf:=fun z=>Gh (l:=y) (i:=i) (x:=z) (by omega)
  rw [<-hd] at bf;have rL:(d+a+c).tmod 1000000000=(d+a+c)%1000000000:=y9 (by omega);have hdiv:(d+a+c).tdiv 1000000000=(d+a+c)/1000000000:=xE (by omega);obtain ⟨z,hz⟩:∃z,z=(d+a+c)%1000000000:=⟨_,rfl⟩;obtain ⟨c',oz⟩:∃z,z=(d+a+c)/1000000000:=⟨_,rfl⟩;have WV:z+1000000000*c'=d+a+c:=by omega
  rw [<-hz] at rL;rw [<-oz] at hdiv;have bh:=fun (hp:Hp) (ct:Nat)=>Df (hp:=hp) (ct:=ct) (id:=1) (v:=z) (ex:=false) (l:=pre++y++post) (o:=pre.length+i) (by rw [oM];omega)
  have oU:=Oy (pre:=pre) (x:=y) (post:=post) (i:=i) z (by omega)
  simp only [go_sem,ya,yi,J9,H3,show (i:Int)<(n:Int) by omega,ev,fC,wrapN (n:=pre.length+i) (by omega),dH 1 0 (show pre.length+i<M by omega),yd,ey,wrap64 (n:=d+a) (by omega) (by omega),wrap64 (n:=d+a+c) (by omega) (by omega),dK _ _ _ (show (1000000000:Int)≠0 by decide),eU _ _ _ (show (1000000000:Int)≠0 by decide),rL,hdiv,wrap64 (n:=c') (by omega) (by omega),bh,oU];refine ⟨_,k-1,rfl,by omega,i+1,c',y.set i z,?_,by omega,by simp [ly],?_,by rw [afV (by omega)];exact oV,⟨by omega,by omega⟩,?_⟩
  ·rw [wrap64 (by omega) (by omega)];simp only [go_sem,ya,yb,av,az hw.pu,aE _ hw.pu]<;>rfl
  ·rw [tA];exact Ua gy ⟨by omega,by omega⟩
  ·rw [bf,eM,uJ];exact ar2 WV aR
 ·right
  have:i=n:=by omega
  subst this;rw [yK (show vs.length<=i by omega)] at aR;simp only [go_sem,ya,J9,H3,show ¬(i:Int)<(i:Int) by omega];exact ⟨_,_,rfl,by simp,_,c,y,rfl,rfl,by simp only [go_sem,ya],by simp only [go_sem,ya],by simp only [go_sem,ya],by simp only [go_sem,ya],by simp only [go_sem,ya],by simp only [go_sem,ya],by simp only [go_sem,ya],by simp only [go_sem,ya],ly,gy,oV,hc,aR⟩
def ar4 {A V t:Nat} {y:List Int} {n:Nat} (hV:0<V) (ly:y.length=n+1) (gy:dg (y.take n)) (h:sv y=(A:Int)-t*V) (h1:A/V<=t) (h2:t<=A/V+1):
  (¬y.getD n 0<0->t=A/V/\sv y=((A%V:Nat):Int))/\(y.getD n 0<0->t=A/V+1/\sv y+V=((A%V:Nat):Int)):=by
 have fS:=wC A V;have hm:=xD A hV;have eM:=Oh (l:=y) n;rw [yK (by omega),AN gy] at eM;have Lm:=kD gy;have hp:(0:Int)<1000000000^n:=ycf (by decide);generalize y.getD n 0=top at*
 generalize A/V=Q at*
 have hq:t=Q\/t=Q+1:=by omega
 constructor
 ·intro h0;have h3:0<=(1000000000:Int)^n*top:=vM (uK hp) (by omega);rcases hq with rfl | rfl
  ·grind
  ·grind
 ·intro h0;have h3:(1000000000:Int)^n*top<=-(1000000000^n):=by
   have:=wT (show top<=-1 by omega) (uK hp)
   grind
  rcases hq with rfl | rfl
  ·grind
  ·grind
def acD {y:List Int} {n:Nat} (ly:y.length=n+1) (gy:dg (y.take n)) (h0:0<=sv y) (h1:sv y<1000000000^n):y.getD n 0=0/\dg y/\sv y=dv y:=by
 have eM:=Oh (l:=y) n;rw [yK (by omega),AN gy] at eM;have Lm:=kD gy;rw [yS,xY (by omega)] at Lm;have hp:(0:Int)<1000000000^n:=ycf (by decide);have Gy:((1000000000^n:Nat):Int)=(1000000000:Int)^n:=by simp
 have aCi:(dv (y.take n):Int)<1000000000^n:=by omega
 have ht:y.getD n 0=0:=by
  generalize y.getD n 0=top at*
  rcases Int.lt_trichotomy top 0 with h | h | h
  ·have:=wT (show top<=-1 by omega) (uK hp)
   grind
  ·grind
  ·have:=wT (show 1<=top by omega) (uK hp)
   grind
 have hg:dg y:=by
  have e:y=y.take n++[0]:=by
   have h1:y=y.take n++y.drop n:=(xT n y).symm;have h2:y.drop n=[0]:=by
    rw [yT (by omega),xh (by omega)]
    grind
   grind
  rw [e];exact ik.2 ⟨gy,lP.2 ⟨by decide,by decide⟩⟩
 exact ⟨ht,hg,AN hg⟩
end
end
section
open Go (IntKind)
def ar5 {l:List Int} {i:Nat} (h:i<l.length):dv (l.drop i)=(l.getD i 0).toNat+1000000000*dv (l.drop (i+1)):=by
 rw [yT h]
 have:l[i]=l.getD i 0:=by simp_all
 rw [this];rfl
def Tt (l:List Int) (i:Nat) (h:i<=l.length):dv l=dv (l.take i)+1000000000^i*dv (l.drop i):=by
 conv=>lhs;rw [<-xT i l]
 rw [mX,yS,xY h]
def ar6 {sx sy sV:Int} {p:Int} {bo t:Int} {yn z:Int} {szy:Int} (h1:sy+t*sV=sx+p*bo) (h2:szy=sy+p*(z-yn)) (h3:z=yn-bo):szy=sx-t*sV:=by grind
section
variable {P:aI} {L:Lib}
def ar7 (rO:Has P L 301 AX) {w:AV} {vs:List Int} {f:Int} (hw:bq w vs) (gv:dg vs) {n M m:Nat} (lv:vs.length=n) (eQ:2<=n) (hnM:n<M) (MA:M<=20000000000) (hm:m=M-n) (eN:0<vs.getD (n-1) 0) {U0:Nat}:
  ∀k st,(∃(j:Nat) (us qs:List Int),bA [8,9,10,11,12,13] st=⟨[(8,.ak 0 0 1),(9,w),(10,aa n),(11,.ak 1 0 M),(12,.ak 2 0 m),(13,aa ((j:Int)-1))],H3 qs us f,3,0⟩/\j=k/\j<=m/\us.length=M/\qs.length=m/\dg us/\dg qs/\(∀i,i<j->qs.getD i 0=0)/\
    dv us+dv qs*dv vs=U0/\dv (us.drop j)<dv vs)->
   ∃ex st',D P L (.loop [8,9,10,11,12,13] Ka) st=some (ex,st')/\∃tm us qs,st'=⟨tm,H3 qs us f,3,0⟩/\ex= .exit 2/\ab tm 8= .ak 0 0 1/\ab tm 10=aa n/\ab tm 11= .ak 1 0 M/\ab tm 12= .ak 2 0 m/\us.length=M/\qs.length=m/\dg us/\dg qs/\
    dv us+dv qs*dv vs=U0/\dv us<dv vs:=by
 refine cg (I:=fun k st=>∃(j:Nat) (us qs:List Int),st=⟨[(8,.ak 0 0 1),(9,w),(10,aa n),(11,.ak 1 0 M),(12,.ak 2 0 m),(13,aa ((j:Int)-1))],H3 qs us f,3,0⟩/\j=k/\j<=m/\us.length=M/\qs.length=m/\dg us/\dg qs/\(∀i,i<j->qs.getD i 0=0)/\
    dv us+dv qs*dv vs=U0/\dv (us.drop j)<dv vs)
  (Q:=fun ex st'=>∃tm us qs,st'=⟨tm,H3 qs us f,3,0⟩/\ex= .exit 2/\ab tm 8= .ak 0 0 1/\ab tm 10=aa n/\ab tm 11= .ak 1 0 M/\ab tm 12= .ak 2 0 m/\us.length=M/\qs.length=m/\dg us/\dg qs/\
    dv us+dv qs*dv vs=U0/\dv us<dv vs) ?_
 rintro k st ⟨j,us,qs,rfl,rfl,hj,lu,lq,gu,gq,hz,aR,oV⟩
 cases j with
 | zero=>
  right
  simp only [go_sem,ya,Ka,H3,show ¬(0:Int)<=((0:Nat):Int)-1 by omega];exact ⟨_,_,rfl,by simp,_,us,qs,rfl,rfl,by simp only [go_sem,ya],by simp only [go_sem,ya],by simp only [go_sem,ya],by simp only [go_sem,ya],lu,lq,gu,gq,aR,by simpa using oV⟩
 | succ j=>
  left
  obtain ⟨pre,fC⟩:∃p,p=us.take j:=⟨_,rfl⟩;obtain ⟨x,hx⟩:∃p,p=(us.drop j).take (n+1):=⟨_,rfl⟩;obtain ⟨post,hJ⟩:∃p,p=us.drop (j+(n+1)):=⟨_,rfl⟩;have lp:pre.length=j:=by rw [fC,yS];omega
  have lx:x.length=n+1:=by rw [hx,yS,wA];omega
  have lpo:M=pre.length+(n+1)+post.length:=by rw [lp,hJ,wA];omega
  have lf:us=pre++x++post:=by
   rw [fC,hx,hJ,<-vH,xo,xT,xT]
  have gpo:dg post:=by
   have:=gu;rw [lf] at this;exact (ik.1 this).2
  have gpx:=by have:=gu;rw [lf] at this;exact (ik.1 this).1
  have gx:dg x:=(ik.1 gpx).2;have VY:dg pre:=(ik.1 gpx).1;have hA:=ar5 (l:=us) (i:=j) (by omega);have hgj:=iD gu j;have HE:us.drop j=x++post:=by rw [hJ,hx,<-vH,xT]
  have By:dv (us.drop j)=dv x+1000000000^(n+1)*dv post:=by rw [HE,mX,lx]
  have Mk:=kD gv;rw [lv] at Mk;have bm:dv (us.drop j)<1000000000*dv vs:=by omega
  have hp0:dv post=0:=by
   rcases xu (dv post) with e | e
   ·exact e
   ·have h1:=yQ (1000000000^(n+1)) e;rw [yi,xj] at h1;rw [xj] at By;omega
  rw [hp0,xO,yZ] at By;have MC:=fun (l:List Int) (hl:dg l) (i:Nat)=>iD hl i
  obtain ⟨v1,fq⟩:∃v:Nat,vs.getD (n-1) 0=v:=⟨(vs.getD (n-1) 0).toNat,by have:=MC vs gv (n-1);omega⟩;obtain ⟨v2,qW⟩:∃v:Nat,vs.getD (n-2) 0=v:=⟨(vs.getD (n-2) 0).toNat,by have:=MC vs gv (n-2);omega⟩;obtain ⟨u0,C9⟩:∃v:Nat,x.getD n 0=v:=⟨(x.getD n 0).toNat,by have:=MC x gx n;omega⟩;obtain ⟨u1,Da⟩:∃v:Nat,x.getD (n-1) 0=v:=⟨(x.getD (n-1) 0).toNat,by have:=MC x gx (n-1);omega⟩;obtain ⟨u2,zY⟩:∃v:Nat,x.getD (n-2) 0=v:=⟨(x.getD (n-2) 0).toNat,by have:=MC x gx (n-2);omega⟩;have hl:gP x vs n v1 v2 u0 u1 u2:=⟨eQ,by omega,lx,lv,gx,gv,fq,qW,C9,Da,zY,by omega,by rw [<-By];exact bm⟩
  have P5:=hl.digit;have sn:0<dv vs:=by omega
  have rL:=xD (dv x) sn;obtain ⟨t,e1,QA,Xh,ht3⟩:=awy (P:=P) (L:=L) rO hw hl (pre:=pre) (post:=post) (qs:=qs) (f:=f) (M:=M) (by omega) (by omega);rw [<-lf,lp] at e1;have XY:dv us=dv pre+1000000000^j*dv x:=by
   have:=Tt us j (by omega)
   rw [By,<-fC] at this;exact this
  have VZ:∀y,dv (pre++y++post)=dv pre+1000000000^j*dv y:=fun y=>by
   rw [xo,mX,mX,hp0,xO,yZ,lp]
  have mH:=abu (b:=0) XY aR;have zZ:below 3 w:=mv hw.pu;have bf:=Gh (l:=qs) (i:=j) (x:=((dv x/dv vs:Nat):Int)) (by omega);have gq':dg (qs.set j ((dv x/dv vs:Nat):Int)):=On gq ⟨tg _,ui.2 P5⟩;rw [hz j (by omega),Int.sub_zero,AN gq,AN gq'] at bf;have bf:dv (qs.set j ((dv x/dv vs:Nat):Int))=dv qs+1000000000^j*(dv x/dv vs):=by
   have Gy:((1000000000^j*(dv x/dv vs):Nat):Int)=(1000000000:Int)^j*((dv x/dv vs:Nat):Int):=by rw [xS];simp
   rw [<-Gy] at bf;exact yao (by rw [yag,yag,bf,vC])
  have fin:∀(s':St) (x':List Int),bA [8,9,10,11,12,13] s'=⟨[(8,.ak 0 0 1),(9,w),(10,aa n),(11,.ak 1 0 M),(12,.ak 2 0 m),(13,aa ((j:Int)-1))],H3 (qs.set j ((dv x/dv vs:Nat):Int)) (pre++x'++post) f,3,0⟩->x'.length=n+1->dg x'->sv x'=((dv x%dv vs:Nat):Int)->
    ∃(j':Nat) (us qs:List Int),bA [8,9,10,11,12,13] s'=⟨[(8,.ak 0 0 1),(9,w),(10,aa n),(11,.ak 1 0 M),(12,.ak 2 0 m),(13,aa ((j':Int)-1))],H3 qs us f,3,0⟩/\j'=j/\j'<=m/\us.length=M/\qs.length=m/\dg us/\dg qs/\(∀i,i<j'->qs.getD i 0=0)/\dv us+dv qs*dv vs=U0/\dv (us.drop j')<dv vs:=fun s' x' hc XX Q8 Mn=>by
   have aif:dv x'=dv x%dv vs:=by rw [AN Q8] at Mn;exact yao Mn
   refine ⟨j,_,_,hc,rfl,by omega,by rw [oM,XX];omega,by simp [lq],ik.2 ⟨ik.2 ⟨VY,Q8⟩,gpo⟩,gq',fun i hi=>by rw [afV (by omega)];exact hz i (by omega),?_,?_⟩
   ·rw [VZ,aif,bf];exact mH
   ·rw [xo,List.drop_left' lp,mX,hp0,xO,yZ,aif];exact rL
  have aih:=fun (z:Int) (hp:Hp) (ct:Nat)=>Df (hp:=hp) (ct:=ct) (id:=2) (v:=z) (ex:=true) (l:=qs) (o:=j) (by omega)
  have svx:=AN gx;have svv:=AN gv;simp only [H3] at e1;simp only [go_sem,ya,Ka,H3,show ((j+1:Nat):Int)-1=(j:Int) by omega,show (0:Int)<=(j:Int) by omega,ag3,e1];generalize mT:D P L (.loop [8,9,10,11,12,13,14,15,16] F3) _=qq;obtain ⟨ex,s,rfl,tm,bo,y,rfl,rfl,t8,t9,t10,t11,t12,t13,t14,t15,ly,gy,jF,hv⟩:=bV mT (ar1 (P:=P) (L:=L) (x:=x) (pre:=pre) (post:=post) (qs:=qs) (f:=f) (m:=m) (M:=M) hw lv lpo (by omega) gv (t:=t) (by omega) n) ⟨0,0,x,by
   rw [lf,lp]
   simp only [go_sem,ya,yb,av,az hw.pu,aE _ hw.pu]<;>rfl,by omega,lx,gx,by omega,by simp [sv]⟩
  rw [lp] at t13;have hyn:=iD gy n;have Yk:=ze (l:=pre++y++post) (o:=pre.length+n) (by rw [oM];omega);rw [Cb (by omega),lp] at Yk;obtain ⟨z,Yl⟩:∃z,z=y.getD n 0-bo:=⟨_,rfl⟩;have Cu:=fun (hp:Hp) (ct:Nat)=>Df (hp:=hp) (ct:=ct) (id:=1) (v:=z) (ex:=false) (l:=pre++y++post) (o:=j+n) (by rw [oM];omega)
  have oU:=Oy (pre:=pre) (x:=y) (post:=post) (i:=n) z (by omega);rw [lp] at oU;rw [oU] at Cu;have oh:=Gh (l:=y) (i:=n) (x:=z) (by omega);have Po:=ar6 hv oh Yl;have C8:(y.set n z).length=n+1:=by simp [ly]
  have EZ:dg ((y.set n z).take n):=by
   have:(y.set n z).take n=y.take n:=by rw [tA,tx (by simp;omega)]
   rw [this];exact DG gy n
  rw [svx,svv] at Po;obtain ⟨s0,s1⟩:=ar4 sn C8 EZ Po Xh ht3;have eg:(y.set n z).getD n 0=z:=anw (by omega);rw [eg] at s0 s1;have Ym:=ze (l:=pre++y.set n z++post) (o:=pre.length+n) (by rw [oM];omega);rw [Cb (by omega),lp,eg] at Ym;generalize y.set n z=y1 at*
  have hpn:((10^9:Int))=1000000000:=by decide
  by_cases fY:z<0
  ·obtain ⟨f1,f2⟩:=s1 fY
   simp only [go_sem,ya,yb,yi,av,az hw.pu,aE _ hw.pu,t8,t9,t10,t11,t12,t13,t14,t15,show (j:Int)+(n:Int)=((j+n:Nat):Int) from rfl,wrapN (n:=j+n) (by omega),dH 1 0 (show j+n<M by omega),yd,Yk,<-Yl,wrap64 (n:=z) (by omega) (by omega),Cu,Ym,fY];generalize Ev:D P L (.loop [8,9,10,11,12,13,14,19,20] J9) _=XR;obtain ⟨ex,s,rfl,oZ,c,y2,rfl,rfl,t8,t9,t10,t11,t12,t13,t14,t19,XU,Q6,ag9,hc,di⟩:=bV Ev (ar3 (P:=P) (L:=L) (y0:=y1) (pre:=pre) (post:=post) (qs:=qs) (f:=f) (m:=m) (M:=M) (t:=(t:Int)-1) (top:=z) hw lv lpo (by omega) gv n) ⟨0,0,y1,by
    rw [lp,wrap64 (n:=(t:Int)-1) (by omega) (by omega)]
    simp only [go_sem,ya,yb,av,az hw.pu,aE _ hw.pu]<;>rfl,by omega,C8,EZ,eg,by omega,by simp [sv]⟩
   rw [lp] at t13;have aii:=ze (l:=pre++y2++post) (o:=pre.length+n) (by rw [oM];omega);rw [Cb (by omega),lp,ag9] at aii;have P3:=fun (hp:Hp) (ct:Nat)=>Df (hp:=hp) (ct:=ct) (id:=1) (v:=z+c) (ex:=false) (l:=pre++y2++post) (o:=j+n) (by rw [oM];omega)
   have O2:=Oy (pre:=pre) (x:=y2) (post:=post) (i:=n) (z+c) (by omega);rw [lp] at O2;rw [O2] at P3;have qP:=Gh (l:=y2) (i:=n) (x:=z+c) (by omega);rw [ag9,show z+c-z=c by omega,di,svv,f2] at qP;have Ml:(y2.set n (z+c)).length=n+1:=by simp [XU]
   have Q7:dg ((y2.set n (z+c)).take n):=by
    have:(y2.set n (z+c)).take n=y2.take n:=by rw [tA,tx (by simp;omega)]
    rw [this];exact Q6
   have Yn:((dv x%dv vs:Nat):Int)<1000000000^n:=by
    have Gy:((1000000000^n:Nat):Int)=(1000000000:Int)^n:=by simp
    rw [<-Gy];omega
   obtain ⟨g1,g2,g3⟩:=acD Ml Q7 (by rw [qP];omega) (by rw [qP];exact Yn)
   generalize y2.set n (z+c)=y3 at*
   have ft:(t:Int)-1=((dv x/dv vs:Nat):Int):=by rw [f1];omega
   simp only [go_sem,ya,yb,yi,av,az hw.pu,aE _ hw.pu,t8,t9,t10,t11,t12,t13,t14,t19,show (j:Int)+(n:Int)=((j+n:Nat):Int) from rfl,wrapN (n:=j+n) (by omega),dH 1 0 (show j+n<M by omega),yd,aii,wrap64 (n:=z+c) (by omega) (by omega),P3,dH 2 0 (show j<m by omega),aih];rw [ft];refine ⟨_,j,rfl,by omega,fin _ y3 ?_ Ml g2 qP⟩;rw [wrap64 (by omega) (by omega)];simp only [go_sem,ya,yb,av,az hw.pu,aE _ hw.pu]<;>rfl
  ·obtain ⟨f1,f2⟩:=s0 fY;have Yn:((dv x%dv vs:Nat):Int)<1000000000^n:=by
    have Gy:((1000000000^n:Nat):Int)=(1000000000:Int)^n:=by simp
    rw [<-Gy];omega
   obtain ⟨g1,g2,g3⟩:=acD C8 EZ (by rw [f2];omega) (by rw [f2];exact Yn)
   simp only [go_sem,ya,yb,yi,av,az hw.pu,aE _ hw.pu,t8,t9,t10,t11,t12,t13,t14,t15,show (j:Int)+(n:Int)=((j+n:Nat):Int) from rfl,wrapN (n:=j+n) (by omega),dH 1 0 (show j+n<M by omega),yd,Yk,<-Yl,wrap64 (n:=z) (by omega) (by omega),Cu,Ym,fY,dH 2 0 (show j<m by omega),aih];rw [f1];refine ⟨_,j,rfl,by omega,fin _ y1 ?_ C8 g2 f2⟩;rw [wrap64 (by omega) (by omega)];simp only [go_sem,ya,yb,av,az hw.pu,aE _ hw.pu]<;>rfl
end
end
section
open Go (IntKind)
section
variable {P:aI} {L:Lib}
def au2 (h:Has P L 292 AW) {n:Nat} (hn:n<1000000000):af P L 292 [aa n,aa 9] (.str (iX 9 n)):=by
 have key:=cg (P:=P) (L:=L) (live:=[0,1,5]) (a:=oJ)
  (I:=fun k st=>∃(m:Nat) (s:List Nat),st=⟨[(0,aa m),(1,aa 9),(5,.str s)],[],0,0⟩/\s.length+k=9/\m<10^k/\iX 9 n=iX k m++s)
  (Q:=fun ex st=>∃tm ct,st=⟨tm,[],ct,0⟩/\ex= .exit 0/\ab tm 5= .str (iX 9 n)) ?_
 ·unfold af;rw [aq h];simp only [go_sem,AW];generalize hq:D P L (.loop [0,1,5] oJ) _=q;obtain ⟨ex,st,rfl,tm,ct,rfl,rfl,h2⟩:=bV hq (key 9) ⟨n,[],by simp only [go_sem,ya,av]<;>rfl,rfl,by omega,by simp⟩
  simp only [go_sem,av,h2]
 ·rintro k st ⟨m,s,rfl,hk,hm,hs⟩
  cases k with
  | zero=>
   right
   have Ms:m=0:=by simpa using hm
   subst Ms;simp only [go_sem,ya,oJ,show ¬(0:Int)<((0:Nat):Int) by omega,show ¬((s.length:Nat):Int)<9 by omega];refine ⟨_,_,rfl,by simp,_,_,rfl,rfl,?_⟩;rw [hs];rfl
  | succ k=>
   left
   have hr:((m:Int)).tmod 10=((m%10:Nat):Int):=by rw [y9 (by omega)];rfl
   have hq:((m:Int)).tdiv 10=((m/10:Nat):Int):=by rw [xE (by omega)];rfl
   have hd:=aax (r:=m%10) (by omega);have LJ:m<10000000000:=yL hm (by simpa using xk (show 0<10 by decide) (show k+1<=10 by omega));have fin:∃s',D P L oJ ⟨[(0,aa m),(1,aa 9),(5,.str s)],[],0,0⟩=some (.normal,s')/\bA [0,1,5] s'=⟨[(0,aa (m/10:Nat)),(1,aa 9),(5,.str ([48+m%10]++s))],[],0,0⟩:=by
    by_cases hc:(0:Int)<m
    ·simp only [go_sem,ya,yb,oJ,hc,dK _ _ _ (show (10:Int)≠0 by decide),eU _ _ _ (show (10:Int)≠0 by decide),hr,hq,wrapN (n:=m%10+1) (by omega),wrap64 (n:=((m/10:Nat):Int)) (by omega) (by omega),fg,eh,show ((m%10:Nat):Int)+1=((m%10+1:Nat):Int) from rfl,hd,gH (a:=[48+m%10]) (b:=s) (by simp;omega)];exact ⟨_,rfl,by simp only [go_sem,ya,av]⟩
    ·simp only [go_sem,ya,yb,oJ,hc,show ((s.length:Nat):Int)<9 by omega,dK _ _ _ (show (10:Int)≠0 by decide),eU _ _ _ (show (10:Int)≠0 by decide),hr,hq,wrapN (n:=m%10+1) (by omega),wrap64 (n:=((m/10:Nat):Int)) (by omega) (by omega),fg,eh,show ((m%10:Nat):Int)+1=((m%10+1:Nat):Int) from rfl,hd,gH (a:=[48+m%10]) (b:=s) (by simp;omega)];exact ⟨_,rfl,by simp only [go_sem,ya,av]⟩
   obtain ⟨s',f1,f2⟩:=fin;exact ⟨s',k,f1,by omega,m/10,_,f2,by simp;omega,by rw [xj] at hm;omega,by rw [hs];simp [iX]⟩
end
end
end VE
