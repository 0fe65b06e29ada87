import Derived.Test.YtflgmingejdfnaaGreatDoorTar
set_option linter.all false
set_option maxRecDepth 100000
open Bool renaming false_eq_true→yq,not_false→xE
open Int renaming le_of_lt→vP,mul_add→yaH,mul_le_mul→yan,mul_le_mul_of_nonneg_left→we,mul_nonneg→wL,natCast_add→vJ,natCast_mul→xC,natCast_nonneg→ub,neg_neg→yaG,ofNat_eq_natCast→uW,ofNat_lt→vj,pow_pos→yaV,pow_succ→vN,tdiv_eq_ediv_of_nonneg→xB,tmod_eq_emod_of_nonneg→xp,toNat_natCast→xV,toNat_of_nonneg→wu
open Int.ofNat renaming inj→ta
open List renaming append_assoc→y7,drop→um,drop_drop→wR,drop_eq_getElem_cons→yT,drop_eq_nil_of_le→xr,getD_eq_getElem?_getD→xD,length_cons→yx,length_drop→wv,length_nil→yZ,length_take→yN,replicate→yu,set_eq_of_length_le→uk,take_append_drop→xW,take_length→wK,take_of_length_le→yF,take_set→uo
open Nat renaming add_mul→w7,add_zero→xH,div_add_mod→vY,div_lt_iff_lt_mul→uL,eq_zero_or_pos→xv,le_of_lt_succ→uh,le_refl→yC,le_trans→xz,lt_of_lt_of_le→yU,min_eq_left→xX,mod_lt→ve,mul_add→xY,mul_comm→uJ,mul_le_mul→yX,mul_le_mul_left→xn,mul_one→yv,mul_zero→wz,pow_add→uV,pow_le_pow_right→xL,pow_succ→xq,reduceAdd→yc,reduceEqDiff→ya,reduceLT→yV,zero_add→yp
namespace VE
section
open Go (IntKind)
def pW {hp:Hp} {ct id o:Nat} {v:Int} {ex:Bool} {l:List Int} (h:o<l.length):iQ hp ct id o 1 [.int .i64 v] (some (.cells true true ex 1 (l.map ab)))=some (.aw [],aY hp id (.cells true true ex 1 ((l.set o v).map ab)),ct):=by
 rw [zh (by rfl) (by simp;omega) (by rfl)]
 have:over o [AV.int .i64 v] (l.map ab)=(l.set o v).map ab:=by
  simp only [over,yx,yZ,yp];rw [List.map_set,List.set_eq_take_append_cons_drop,yS (by simpa using h)]
  simp
 rw [this];rfl
def mv {l:List Int} {o:Nat} (h:o<l.length):um o (l.map ab)=AV.int .i64 (l.getD o 0)::um (o+1) (l.map ab):=by
 rw [yT (by simpa using h)]
 grind
def lB {v:AV} {l:List Int} (hv:aX v l) {i:Nat} (h:i<l.length):fw 1 i v=some (.ay (.int .i64 (l.getD i 0)::(l.map ab).drop (i+1))):=by
 rw [hv.bt h]
 grind
def acd {o x y c:Int} (ho:0<=o/\o<1000000000) (hx:0<=x/\x<1000000000) (hy:0<=y/\y<1000000000) (hc:0<=c/\c<1000000000):
  (0<=x*y/\x*y<=999999998000000001)/\0<=o+x*y+c/\o+x*y+c<1000000000000000000:=by
 have h1:=wL hx.1 hy.1;have h2:=yan (show x<=999999999 by omega) (show y<=999999999 by omega) hy.1 (by decide);omega
section
variable {P:aF} {L:Lib}
def agY {v w:AV} {a b:List Int} (hv:aX v a) (hw:aX w b) (ha:dg a) (hb:dg b) (la:a.length<=20000000000) (lb:b.length<=20000000000) {n i:Nat} (hn:n=a.length+b.length) (hi:i<a.length) {out0:List Int}:
  ∀k s,(∃(j:Nat) (c:Int) (out:List Int),bA [0,1,5,6,7,8] s=⟨[(0,v),(1,w),(5,.au 0 0 n),(6,ab i),(7,ab c),(8,ab j)],[(0,.cells true true true 1 (out.map ab))],1,0⟩/\j+k=b.length/\out.length=n/\dg out/\(0<=c/\c<1000000000)/\
    dv out+1000000000^i*1000000000^j*c.toNat=dv out0+1000000000^i*((a.getD i 0).toNat*dv (b.take j))/\(∀m,i+b.length<=m->out.getD m 0=out0.getD m 0))->
   ∃ex s',D P L (.loop [0,1,5,6,7,8] Bp) s=some (ex,s')/\∃tm c out,s'=⟨tm,[(0,.cells true true true 1 (out.map ab))],1,0⟩/\ex= .exit 2/\ah tm 0=v/\ah tm 1=w/\ah tm 5= .au 0 0 n/\ah tm 6=ab i/\ah tm 7=ab c/\out.length=n/\dg out/\(0<=c/\c<1000000000)/\
    dv out+1000000000^i*1000000000^b.length*c.toNat=dv out0+1000000000^i*((a.getD i 0).toNat*dv b)/\(∀m,i+b.length<=m->out.getD m 0=out0.getD m 0):=by
 refine dt (I:=fun k s=>∃(j:Nat) (c:Int) (out:List Int),s=⟨[(0,v),(1,w),(5,.au 0 0 n),(6,ab i),(7,ab c),(8,ab j)],[(0,.cells true true true 1 (out.map ab))],1,0⟩/\j+k=b.length/\out.length=n/\dg out/\(0<=c/\c<1000000000)/\
    dv out+1000000000^i*1000000000^j*c.toNat=dv out0+1000000000^i*((a.getD i 0).toNat*dv (b.take j))/\(∀m,i+b.length<=m->out.getD m 0=out0.getD m 0))
  (Q:=fun ex s'=>∃tm c out,s'=⟨tm,[(0,.cells true true true 1 (out.map ab))],1,0⟩/\ex= .exit 2/\ah tm 0=v/\ah tm 1=w/\ah tm 5= .au 0 0 n/\ah tm 6=ab i/\ah tm 7=ab c/\out.length=n/\dg out/\(0<=c/\c<1000000000)/\
    dv out+1000000000^i*1000000000^b.length*c.toNat=dv out0+1000000000^i*((a.getD i 0).toNat*dv b)/\(∀m,i+b.length<=m->out.getD m 0=out0.getD m 0)) ?_
 rintro k s ⟨j,c,out,rfl,hk,hlen,hd,hc,bi,C2⟩;by_cases hj:j<b.length
 ·left
  obtain ⟨x,hx⟩:∃x,x=a.getD i 0:=⟨_,rfl⟩;obtain ⟨y,hy⟩:∃y,y=b.getD j 0:=⟨_,rfl⟩;obtain ⟨o,ho⟩:∃o,o=out.getD (i+j) 0:=⟨_,rfl⟩;have gx:=fe ha i;have gy:=fe hb j;have Wg:=fe hd (i+j);rw [<-hx] at gx;rw [<-hy] at gy;rw [<-ho] at Wg;obtain ⟨p1,p2,p3⟩:=acd Wg gx gy hc;obtain ⟨t,ht⟩:∃t:Nat,o+x*y+c=t:=⟨(o+x*y+c).toNat,by omega⟩;have hr:((t:Nat):Int).tmod 1000000000=((t%1000000000:Nat):Int):=by rw [xp (by omega)];rfl
  have hq:((t:Nat):Int).tdiv 1000000000=((t/1000000000:Nat):Int):=by rw [xB (by omega)];rfl
  have e1:=lB hv hi;have e2:=lB hw hj;rw [<-hx] at e1;rw [<-hy] at e2;have e3:=mv (l:=out) (o:=i+j) (by omega);rw [<-ho] at e3;have n8:t=o.toNat+x.toNat*y.toNat+c.toNat:=by
   have:((x.toNat*y.toNat:Nat):Int)=x*y:=by rw [xC,wu gx.1,wu gy.1]
   omega
  have aY:=I5 (l:=out) (j:=i+j) (x:=((t%1000000000:Nat):Int)) (by omega);rw [<-ho,xV,uV] at aY;have zj:=abB (Y:=dv (b.take j)) n8 aY (by rw [hx];exact bi)
  simp only [go_sem,ya,yv,Bp,hw.len,show (j:Int)<b.length by omega,wrapN (n:=i+j) (by omega),show (i:Int)+(j:Int)=((i+j:Nat):Int) from rfl,fX 0 0 (show i+j<n by omega),yp,e3,e1,e2,wrap64 (n:=x*y) (by omega) (by omega),wrap64 (n:=o+x*y) (by omega) (by omega),ht,wrapN (n:=t) (by omega),eJ _ _ _ (show (1000000000:Int)≠0 by decide),dX _ _ _ (show (1000000000:Int)≠0 by decide),hr,hq,wrapN (n:=t/1000000000) (by omega),pW (l:=out) (o:=i+j) (by omega)];refine ⟨_,k-1,rfl,by omega,j+1,((t/1000000000:Nat):Int),out.set (i+j) ((t%1000000000:Nat):Int),?_,by omega,by simp [hlen],Et hd (by omega),by omega,?_,fun m hm=>?_⟩
  ·rw [wrap64 (by omega) (by omega)];simp only [go_sem,ya,yc,aM,a6 hv.pu,bc _ hv.pu,a6 hw.pu,bc _ hw.pu]<;>rfl
  ·rw [xV,kw,xq,<-hx,<-hy];exact zj
  ·rw [Ov (by omega)];exact C2 m hm
 ·right
  have:j=b.length:=by omega
  subst this;rw [wK] at bi;simp only [go_sem,ya,Bp,hw.len,show ¬(b.length:Int)<b.length by omega];exact ⟨_,_,rfl,by simp,_,c,out,rfl,rfl,by simp only [go_sem,ya],by simp only [go_sem,ya],by simp only [go_sem,ya],by simp only [go_sem,ya],by simp only [go_sem,ya],hlen,hd,hc,bi,C2⟩
end
end
section
open Go (IntKind)
def Hl (n:Nat):(yu n [AV.int .i64 0]).flatten=(yu n (0:Int)).map ab:=by simp_all
def aek (b:Bool):Fy true (some b)=some (.bool (!b)):=by cases b<;>rfl
def M3 (n m:Nat):(yu n (0:Int)).getD m 0=0:=by grind
section
variable {P:aF} {L:Lib}
def agZ {v w:AV} {a b:List Int} (hv:aX v a) (hw:aX w b) (ha:dg a) (hb:dg b) (la:a.length<=20000000000) (lb:b.length<=20000000000) {n:Nat} (hn:n=a.length+b.length):
  ∀k s,(∃(i:Nat) (out:List Int),bA [0,1,5,6] s=⟨[(0,v),(1,w),(5,.au 0 0 n),(6,ab i)],[(0,.cells true true true 1 (out.map ab))],1,0⟩/\i+k=a.length/\out.length=n/\dg out/\dv out=dv (a.take i)*dv b/\(∀m,i+b.length<=m->out.getD m 0=0))->
   ∃ex s',D P L (.loop [0,1,5,6] Bq) s=some (ex,s')/\∃tm out,s'=⟨tm,[(0,.cells true true true 1 (out.map ab))],1,0⟩/\ex= .exit 0/\ah tm 5= .au 0 0 n/\out.length=n/\dg out/\dv out=dv a*dv b:=by
 refine dt (I:=fun k s=>∃(i:Nat) (out:List Int),s=⟨[(0,v),(1,w),(5,.au 0 0 n),(6,ab i)],[(0,.cells true true true 1 (out.map ab))],1,0⟩/\i+k=a.length/\out.length=n/\dg out/\dv out=dv (a.take i)*dv b/\(∀m,i+b.length<=m->out.getD m 0=0))
  (Q:=fun ex s'=>∃tm out,s'=⟨tm,[(0,.cells true true true 1 (out.map ab))],1,0⟩/\ex= .exit 0/\ah tm 5= .au 0 0 n/\out.length=n/\dg out/\dv out=dv a*dv b) ?_
 rintro k s ⟨i,out,rfl,hk,hlen,hd,bi,C2⟩;by_cases hi:i<a.length
 ·left
  simp only [go_sem,ya,Bq,hv.len,show (i:Int)<a.length by omega];generalize hq:D P L (.loop [0,1,5,6,7,8] Bp) _=q;obtain ⟨ex,s,rfl,tm,c,Cm,rfl,rfl,t0,t1,t5,t6,t7,BQ,lK,hc,aiA,UE⟩:=cW hq (agY (P:=P) (L:=L) hv hw ha hb la lb hn hi (out0:=out) b.length) ⟨0,0,out,by simp only [go_sem,ya,yc,aM,a6 hv.pu,bc _ hv.pu,a6 hw.pu,bc _ hw.pu]<;>rfl,by omega,hlen,hd,by omega,by simp [dv],fun m _=>rfl⟩
  have hz:Cm.getD (i+b.length) 0=0:=by rw [UE _ (yC _),C2 _ (yC _)]
  have e3:=mv (l:=Cm) (o:=i+b.length) (by omega);rw [hz] at e3;have aY:=I5 (l:=Cm) (j:=i+b.length) (x:=c) (by omega);rw [hz,uV] at aY
  simp only [go_sem,ya,yv,aM,t0,t1,t5,t6,t7,hw.len,a6 hv.pu,bc _ hv.pu,a6 hw.pu,bc _ hw.pu,wrapN (n:=i+b.length) (by omega),show (i:Int)+(b.length:Int)=((i+b.length:Nat):Int) from rfl,fX 0 0 (show i+b.length<n by omega),yp,e3,Int.zero_add,wrap64 (n:=c) (by omega) (by omega),pW (l:=Cm) (o:=i+b.length) (by omega)];refine ⟨_,k-1,rfl,by omega,i+1,Cm.set (i+b.length) c,?_,by omega,by simp [BQ],Et lK hc,?_,fun m hm=>?_⟩
  ·rw [wrap64 (by omega) (by omega)];simp only [go_sem,ya,yc,aM,a6 hv.pu,bc _ hv.pu,a6 hw.pu,bc _ hw.pu]<;>rfl
  ·rw [kw,w7,<-bi,Nat.mul_assoc];simp only [Int.toNat_zero,wz,xH] at aY;rw [aY];exact aiA
  ·rw [Ov (by omega),UE m (by omega),C2 m (by omega)]
 ·right
  have:i=a.length:=by omega
  subst this;rw [wK] at bi;simp only [go_sem,ya,Bq,hv.len,show ¬(a.length:Int)<a.length by omega];exact ⟨_,_,rfl,by simp,_,out,rfl,rfl,by simp only [go_sem,ya],hlen,hd,bi⟩
def J7 (h:Has P L 293 o5) (bZ:Has P L 300 iL) {v w:AV} {a b:List Int} (hv:aX v a) (hw:aX w b) (ha:dg a) (hb:dg b) (la:a.length<=8000000000) (lb:b.length<=8000000000):
  ∃r out,aj P L 293 [v,w] r/\aX r out/\shut r=r/\dg out/\nz out/\dv out=dv a*dv b:=by
 obtain ⟨n,hn⟩:∃n,n=a.length+b.length:=⟨_,rfl⟩;have b7:∀ct:Nat,o9 ct 1 8 [.int .i64 0] (some n) (some n)=some (.au ct 0 n,.cells true true true 1 ((yu n (0:Int)).map ab)):=fun ct=>by
  rw [Bt (sz:=1) (by omega) (by omega) (by rfl) (by rfl),Hl];rfl
 unfold aj;rw [aR h]
 simp only [go_sem,ya,yc,o5,hv.len,hw.len,wrapN (n:=n) (by omega),show (a.length:Int)+(b.length:Int)=((a.length+b.length:Nat):Int) from rfl,<-hn,b7];generalize hq:D P L (.loop [0,1,5,6] Bq) _=q;obtain ⟨ex,s,rfl,tm,out,rfl,rfl,t5,hlen,hd,bi⟩:=cW hq (agZ (P:=P) (L:=L) hv hw ha hb (by omega) (by omega) hn a.length) ⟨0,yu n 0,by simp only [go_sem,ya,yc,aM,a6 hv.pu,bc _ hv.pu,a6 hw.pu,bc _ hw.pu]<;>rfl,by omega,by simp,Ox n,by rw [Ow];simp [dv],fun m _=>M3 n m⟩
 have jg:=gC true out;rw [hlen] at jg;obtain ⟨r,e1,hr,gQ⟩:=pf bZ jg (by omega);refine ⟨r,cX out,?_,hr,gQ,oE hd,sR out,by rw [nj];exact bi⟩
 have ia:∀hp:Hp,jT 0 n (some (true,1,out.map ab,hp))=some (.aB true n (out.map ab),hp):=fun hp=>jl true (by simp [hlen]) (by decide)
 simp only [go_sem,yc,aM,t5,ia,e1,gQ,hr.dI]
def Cn (h:Has P L 278 Fo) (iz:Has P L 293 o5) (fE:Has P L 294 o6) (bZ:Has P L 300 iL) {v w:AV} {n m:Int} {K:Nat} (hK:K<=8000000000) (hv:gP v n) (hw:gP w m) (hn:n.natAbs<1000000000^K) (hm:m.natAbs<1000000000^K):
  ∃r,aj P L 278 [v,w] r/\gP r (n*m):=by
 obtain ⟨x,a,rfl,hx,ha,na,va⟩:=hv;obtain ⟨y,b,rfl,hy,hb,nb,vb⟩:=hw;have la:=xz (fY ha na (by rw [va];exact hn)) hK
 have lb:=xz (fY hb nb (by rw [vb];exact hm)) hK
 obtain ⟨z,out,e1,hz,gQ,hd,pV,bi⟩:=J7 iz bZ hx hy ha hb la lb;have lo:out.length<=20000000000:=by
  refine fY hd pV ?_;rw [bi];have h1:=gG ha;have h2:=gG hb;have h3:dv a*dv b<1000000000^a.length*1000000000^b.length:=Nat.mul_lt_mul'' h1 h2;rw [<-uV] at h3;have hk:∀K,a.length+b.length<=K->dv a*dv b<1000000000^K:=fun K h=>yU h3 (xL (by decide) h)
  exact hk 20000000000 (by omega)
 obtain ⟨r,e2,hr⟩:=lF fE bZ (!(decide (n<0)==decide (m<0))) hz hd lo;have e:fp (!(decide (n<0)==decide (m<0))) (dv out)=n*m:=by
  rw [bi,va,vb];have hnm:((n.natAbs*m.natAbs:Nat):Int)=(n.natAbs:Int)*m.natAbs:=xC _ _;unfold fp;by_cases h0:n<0<;>by_cases h1:m<0<;>simp only [h0,h1,yz,yD,beq_self_eq_true,Bool.not_true,yq,yM,hnm]
  ·rw [show (n.natAbs:Int)= -n by omega,show (m.natAbs:Int)= -m by omega,Int.neg_mul_neg]
  ·rw [show (true==false)=false from rfl,xE,yS rfl,show (n.natAbs:Int)= -n by omega,show (m.natAbs:Int)=m by omega,Int.neg_mul,yaG]
  ·rw [show (false==true)=false from rfl,xE,yS rfl,show (n.natAbs:Int)=n by omega,show (m.natAbs:Int)= -m by omega,Int.mul_neg,yaG]
  ·rw [show (n.natAbs:Int)=n by omega,show (m.natAbs:Int)=m by omega]
 rw [e] at hr;obtain ⟨w2,l2,rfl,fa,gM,fR,nU⟩:=hr;refine ⟨_,?_,w2,l2,rfl,fa,gM,fR,nU⟩;unfold aj at e1 e2 ⊢;rw [aR h];simp only [go_sem,ya,yc,Fo,bL,hx.pu,hx.aE,hx.one,hy.pu,hy.aE,hy.one,hz.aE,hz.shut,fa.pu,fa.one,cP,yp,fj,e1,rb,aek,e2,eL,cI];rcases fa with ⟨rfl,_⟩ | ⟨e,rfl⟩<;>rfl
end
end
section
open Go (IntKind)
def ael (i:Nat) (q:List Int) (x:Int):(yu (i+1) (0:Int)++q).set i x=yu i 0++x::q:=by
 rw [List.replicate_succ',y7,List.set_append_right _ _ (by simp)]
 simp
section
variable {P:aF} {L:Lib}
def ag0 {v:AV} {a:List Int} (hv:aX v a) (ha:dg a) (la:a.length<=20000000000) {d:Nat} (h0:0<d) (h1:d<1000000000):
  ∀k s,(∃(j r:Nat) (q:List Int),bA [0,1,6,7,8] s=⟨[(0,v),(1,ab d),(6,.au 0 0 a.length),(7,ab r),(8,ab ((j:Int)-1))],[(0,.cells true true true 1 ((yu j (0:Int)++q).map ab))],1,0⟩/\j=k/\j+q.length=a.length/\r<d/\dg q/\dv (a.drop j)=d*dv q+r)->
   ∃ex s',D P L (.loop [0,1,6,7,8] Br) s=some (ex,s')/\∃tm r q,s'=⟨tm,[(0,.cells true true true 1 (q.map ab))],1,0⟩/\ex= .exit 0/\ah tm 6= .au 0 0 a.length/\ah tm 7=ab (r:Nat)/\q.length=a.length/\r<d/\dg q/\dv a=d*dv q+r:=by
 refine dt (I:=fun k s=>∃(j r:Nat) (q:List Int),s=⟨[(0,v),(1,ab d),(6,.au 0 0 a.length),(7,ab r),(8,ab ((j:Int)-1))],[(0,.cells true true true 1 ((yu j (0:Int)++q).map ab))],1,0⟩/\j=k/\j+q.length=a.length/\r<d/\dg q/\dv (a.drop j)=d*dv q+r)
  (Q:=fun ex s'=>∃tm r q,s'=⟨tm,[(0,.cells true true true 1 (q.map ab))],1,0⟩/\ex= .exit 0/\ah tm 6= .au 0 0 a.length/\ah tm 7=ab (r:Nat)/\q.length=a.length/\r<d/\dg q/\dv a=d*dv q+r) ?_
 rintro k s ⟨j,r,q,rfl,rfl,hl,hr,hd,bi⟩
 cases j with
 | zero=>
  right
  simp only [go_sem,ya,Br,show ¬(0:Int)<=((0:Nat):Int)-1 by omega];exact ⟨_,_,rfl,by simp,_,r,q,rfl,rfl,by simp only [go_sem,ya],by simp only [go_sem,ya],by omega,hr,hd,bi⟩
 | succ i=>
  left
  have hi:i<a.length:=by omega
  obtain ⟨x,hx⟩:∃x,x=a.getD i 0:=⟨_,rfl⟩;have e1:=lB hv hi;have gx:=fe ha i;rw [<-hx] at e1 gx;obtain ⟨t,ht⟩:∃t:Nat,t=r*1000000000+x.toNat:=⟨_,rfl⟩;have n8:(r:Int)*1000000000+x=(t:Int):=by omega
  have iP:t<d*1000000000:=by
   omega
  have kU:t/d<1000000000:=(uL h0).2 (by rw [uJ];exact iP)
  have cz:t%d<d:=ve _ h0;have e2:((t:Nat):Int).tdiv d=((t/d:Nat):Int):=by rw [xB (by omega)];rfl
  have e3:((t:Nat):Int).tmod d=((t%d:Nat):Int):=by rw [xp (by omega)];rfl
  have V4:(yu (i+1) (0:Int)++q).length=a.length:=by simp;omega
  have aT:=fun (hp:Hp) (ct id:Nat) (ex:Bool)=>pW (hp:=hp) (ct:=ct) (id:=id) (ex:=ex) (v:=((t/d:Nat):Int)) (l:=yu (i+1) (0:Int)++q) (o:=i) (by rw [V4];exact hi)
  simp only [ael] at aT
  simp only [go_sem,ya,yv,Br,show ((i+1:Nat):Int)-1=(i:Int) by omega,show (0:Int)<=(i:Int) by omega,wrap64 (n:=(r:Int)*1000000000) (by omega) (by omega),e1,n8,wrapN (n:=t) (by omega),dX _ _ _ (show (d:Int)≠0 by omega),eJ _ _ _ (show (d:Int)≠0 by omega),e2,e3,wrapN (n:=t/d) (by omega),fX 0 0 (show i<a.length from hi),yp,aT]
  refine ⟨_,i,rfl,by omega,i,t%d,((t/d:Nat):Int)::q,?_,rfl,by simp;omega,cz,(eU (a:=[((t/d:Nat):Int)]) (b:=q)).2 ⟨ig.2 ⟨ub _,vj.2 kU⟩,hd⟩,?_⟩
  ·rw [wrap64 (by omega) (by omega)];simp only [go_sem,ya,yc,aM,a6 hv.pu,bc _ hv.pu]<;>rfl
  ·have iR:a.drop i=x::a.drop (i+1):=by
    rw [yT hi,hx];simp [xD,List.getElem?_eq_getElem hi]
   rw [iR];simp only [dv,bi,xV];have e:=vY t d;rw [xY,xY d,Nat.mul_left_comm 1000000000 d];omega
def UF (h:Has P L 299 o7) (bZ:Has P L 300 iL) {v:AV} {a:List Int} (hv:aX v a) (ha:dg a) (la:a.length<=20000000000) {d:Nat} (h0:0<d) (h1:d<1000000000):
  ∃r q,aj P L 299 [v,ab d] (.aw [r,ab (dv a%d:Nat)])/\aX r q/\shut r=r/\bW r=r/\dg q/\nz q/\dv q=dv a/d:=by
 obtain ⟨n,hn⟩:∃n,n=a.length:=⟨_,rfl⟩;have b7:∀ct:Nat,o9 ct 1 8 [.int .i64 0] (some n) (some n)=some (.au ct 0 n,.cells true true true 1 ((yu n (0:Int)).map ab)):=fun ct=>by
  rw [Bt (sz:=1) (by omega) (by omega) (by rfl) (by rfl),Hl];rfl
 unfold aj;rw [aR h];simp only [go_sem,ya,yc,o7,hv.len,<-hn,b7];generalize hq:D P L (.loop [0,1,6,7,8] Br) _=q;obtain ⟨ex,s,rfl,tm,r,qs,rfl,rfl,t6,t7,hlen,hr,hd,bi⟩:=cW hq (ag0 (P:=P) (L:=L) hv ha la h0 h1 a.length) ⟨a.length,0,[],by
  rw [wrap64 (by omega) (by omega),List.append_nil,<-hn]
  simp only [go_sem,ya,yc,aM,a6 hv.pu,bc _ hv.pu]<;>rfl,rfl,by simp,h0,rfl,by rw [xr (yC _)];simp [dv]⟩
 have jg:=gC true qs;rw [hlen] at jg;obtain ⟨w,e1,hw,gQ⟩:=pf bZ jg (by omega);have kg:dv a/d=dv qs/\dv a%d=r:=(Nat.div_mod_unique h0).2 ⟨by omega,hr⟩;refine ⟨w,cX qs,?_,hw,gQ,hw.bW,oE hd,sR qs,by rw [nj,kg.1]⟩;have ia:∀hp:Hp,jT 0 a.length (some (true,1,qs.map ab,hp))=some (.aB true a.length (qs.map ab),hp):=fun hp=>jl true (by simp [hlen]) (by decide)
 rw [kg.2];simp only [go_sem,ya,yc,aM,t6,t7,ia,e1,gQ];rcases hw with ⟨rfl,_⟩ | ⟨e,rfl⟩<;>rfl
def ajY (h:Has P L 279 zC) (J8:Has P L 295 Cb) (jW:Has P L 296 mC) (FG:Has P L 297 Cc) (jy:Has P L 302 mD) (fE:Has P L 294 o6) (bZ:Has P L 300 iL) {v w:AV} {n m:Int} {K:Nat} (hK:K<=8000000000) (hv:gP v n) (hw:gP w m) (hn:n.natAbs<1000000000^K) (hm:m.natAbs<1000000000^K):
  ∃r,aj P L 279 [v,w] r/\gP r (n+m):=by
 obtain ⟨x,a,rfl,hx,ha,na,va⟩:=hv;obtain ⟨y,b,rfl,hy,hb,nb,vb⟩:=hw;have la:=xz (fY ha na (by rw [va];exact hn)) hK
 have lb:=xz (fY hb nb (by rw [vb];exact hm)) hK
 by_cases hs:(decide (n<0)==decide (m<0))=true
 ·obtain ⟨z,out,e1,hz,hd,bi,hl⟩:=ajX J8 jy hx hy ha hb (by omega) (by omega);have lo:out.length<=20000000000:=by omega
  obtain ⟨r,e2,hr⟩:=lF fE bZ (decide (n<0)) hz hd lo;have e:fp (decide (n<0)) (dv out)=n+m:=by
   have mW:(n<0)=(m<0):=by simpa using eq_of_beq hs
   rw [bi,va,vb];unfold fp;by_cases h0:n<0
   ·have h1:m<0:=mW▸h0;simp only [h0,yz,yR];omega
   ·have h1:¬m<0:=mW▸h0;simp only [h0,yD,yq,yM];omega
  rw [e] at hr;obtain ⟨w2,l2,rfl,fa,gM,fR,nU⟩:=hr;refine ⟨_,?_,w2,l2,rfl,fa,gM,fR,nU⟩;unfold aj at e1 e2 ⊢;rw [aR h];simp only [go_sem,ya,yc,zC,bL,hx.pu,hx.aE,hx.one,hy.pu,hy.aE,hy.one,hz.aE,fa.pu,fa.one,cP,yp,fj,e1,rb,jM,hs,e2,eL,cI];rcases fa with ⟨rfl,_⟩ | ⟨e,rfl⟩<;>rfl
 ·have hs:(decide (n<0)==decide (m<0))=false:=by simpa using hs
  have mW:¬((n<0)=(m<0)):=fun e=>by simp [e] at hs
  have ec:=J6 jW hx hy ha hb na nb (by omega) (by omega);by_cases hc:dv a<dv b
  ·have fG:gl (dv a) (dv b)= -1:=by unfold gl;rw [yS hc]
   rw [fG] at ec;obtain ⟨z,out,e1,hz,gQ,hd,pV,bi⟩:=UD FG jy bZ hy hx hb ha nb na (by omega) (by omega);have lo:out.length<=20000000000:=by
    refine fY hd pV ?_
    have:=gG hb
    have hk:∀K,b.length<=K->dv out<1000000000^K:=fun K h=>yU (show dv out<1000000000^b.length by omega) (xL (by decide) h)
    exact hk 20000000000 (by omega)
   obtain ⟨r,e2,hr⟩:=lF fE bZ (decide (m<0)) hz hd lo;have e:fp (decide (m<0)) (dv out)=n+m:=by
    rw [va,vb] at bi;unfold fp;by_cases h0:m<0
    ·have h1:¬n<0:=fun h1=>mW (by simp [h0,h1])
     simp only [h0,yz,yR];omega
    ·have h1:n<0:=by
      by_cases h1:n<0
      ·exact h1
      ·exact absurd (by simp [h0,h1]) mW
     simp only [h0,yD,yq,yM];omega
   rw [e] at hr;obtain ⟨w2,l2,rfl,fa,gM,fR,nU⟩:=hr;refine ⟨_,?_,w2,l2,rfl,fa,gM,fR,nU⟩;unfold aj at e1 e2 ec ⊢;rw [aR h];simp only [go_sem,ya,yc,zC,bL,hx.pu,hx.aE,hx.one,hy.pu,hy.aE,hy.one,hz.aE,hz.shut,fa.pu,fa.one,cP,yp,fj,e1,rb,jM,hs,ec,show ¬(0:Int)<=-1 by decide,e2,eL,cI];rcases fa with ⟨rfl,_⟩ | ⟨e,rfl⟩<;>rfl
  ·have fG:(0:Int)<=gl (dv a) (dv b):=by unfold gl;rw [yE hc];split<;>decide
   obtain ⟨z,out,e1,hz,gQ,hd,pV,bi⟩:=UD FG jy bZ hx hy ha hb na nb (by omega) (by omega);have lo:out.length<=20000000000:=by
    refine fY hd pV ?_
    have:=gG ha
    have hk:∀K,a.length<=K->dv out<1000000000^K:=fun K h=>yU (show dv out<1000000000^a.length by omega) (xL (by decide) h)
    exact hk 20000000000 (by omega)
   obtain ⟨r,e2,hr⟩:=lF fE bZ (decide (n<0)) hz hd lo;have e:fp (decide (n<0)) (dv out)=n+m:=by
    rw [va,vb] at bi;unfold fp;by_cases h0:n<0
    ·have h1:¬m<0:=fun h1=>mW (by simp [h0,h1])
     simp only [h0,yz,yR];omega
    ·have h1:m<0:=by
      by_cases h1:m<0
      ·exact h1
      ·exact absurd (by simp [h0,h1]) mW
     simp only [h0,yD,yq,yM];omega
   rw [e] at hr;obtain ⟨w2,l2,rfl,fa,gM,fR,nU⟩:=hr;refine ⟨_,?_,w2,l2,rfl,fa,gM,fR,nU⟩;unfold aj at e1 e2 ec ⊢;rw [aR h];simp only [go_sem,ya,yc,zC,bL,hx.pu,hx.aE,hx.one,hy.pu,hy.aE,hy.one,hz.aE,hz.shut,fa.pu,fa.one,cP,yp,fj,e1,rb,jM,hs,ec,fG,e2,eL,cI];rcases fa with ⟨rfl,_⟩ | ⟨e,rfl⟩<;>rfl
end
end
section
open Go (IntKind)
section
variable {P:aF} {L:Lib}
def PC {l:List Int} (hd:dg l) (hn:nz l) (h:dv l<1000000000):l.length<=1:=fY hd hn (by simpa using h)
def ajZ (h:Has P L 289 mB) (jW:Has P L 296 mC) (kJ:Has P L 299 o7) (bZ:Has P L 300 iL) {v w:AV} {a b:List Int} (hv:aX v a) (hw:aX w b) (ha:dg a) (hb:dg b) (na:nz a) (nb:nz b) (la:a.length<=20000000000) (lb:b.length<=1) (h0:0<dv b):
  ∃q r lq lr,aj P L 289 [v,w] (.aw [q,r])/\aX q lq/\aX r lr/\dg lq/\nz lq/\dg lr/\nz lr/\dv lq=dv a/dv b/\dv lr=dv a%dv b:=by
 have ec:=J6 jW hv hw ha hb na nb la (by omega);by_cases hc:dv a<dv b
 ·have fG:gl (dv a) (dv b)= -1:=by unfold gl;rw [yS hc]
  rw [fG] at ec;refine ⟨.aa,v,[],a,?_,ni,hv,rfl,rfl,ha,na,?_,?_⟩
  ·unfold aj;rw [aR h];simp only [go_sem,ya,mB,hv.aE,hw.aE,ec,show (-1:Int)<0 by decide];rcases hv with ⟨rfl,_⟩ | ⟨e,rfl⟩<;>rfl
  ·rw [Nat.div_eq_of_lt hc];rfl
  ·rw [Nat.mod_eq_of_lt hc]
 ·have fG:¬gl (dv a) (dv b)<0:=by unfold gl;rw [yE hc];split<;>decide
  have kP:b.length=1:=by
   rcases xv b.length with e | e
   ·rw [List.eq_nil_of_length_eq_zero e] at h0;simp [dv] at h0
   ·omega
  obtain ⟨x,rfl⟩:∃x,b=[x]:=by
   cases b with
   | nil=>simp at kP
   | cons x r=>cases r with
    | nil=>exact ⟨x,rfl⟩
    | cons y r=>simp at kP
  have gx:=ig.1 hb;obtain ⟨d,hd⟩:∃d:Nat,x=d:=⟨x.toNat,by omega⟩;subst hd;have hdd:dv [((d:Nat):Int)]=d:=by simp [dv]
  rw [hdd] at h0 hc fG ec ⊢;obtain ⟨q,lq,e1,hq,hqs,aj0,dq,nq,vq⟩:=UF kJ bZ hv ha la h0 (by omega);have ani:dv a%d<d:=ve _ h0;generalize dv a%d=m at*
  obtain ⟨r,e2,hr,Al⟩:=pf bZ (gC true [(m:Int)]) (by simp);refine ⟨q,r,lq,cX [(m:Int)],?_,hq,hr,dq,nq,oE (ig.2 (by omega)),sR _,vq,by rw [nj];simp [dv]⟩;have e3:=hw.bt (i:=0) (by simp);simp only [yx,yZ,yp,List.map_cons,List.map_nil,List.getElem_cons_zero] at e2 e3;unfold aj;rw [aR h];simp only [go_sem,ya,yc,yV,Nat.reduceLeDiff,yv,mB,hv.aE,hw.len,hw.aE,ec,fG,yx,yZ,show ((1:Nat):Int)=(1:Int) from rfl,yz,e3,e1,aj0,e2,Al];rcases hq with ⟨rfl,_⟩ | ⟨e,rfl⟩<;>rcases hr with ⟨rfl,_⟩ | ⟨e',rfl⟩<;>rfl
end
end
section
open Go (IntKind)
def sv:List Int->Int
 | []=>0
 | a::r=>a+1000000000*sv r
def NO:∀(a b:List Int),sv (a++b)=sv a+1000000000^a.length*sv b
 | [],b=>by simp [sv]
 | x::a,b=>by
  simp only [List.cons_append,sv,NO a b,yx,vN,yaH]
  grind
def ag1 (x:Int):sv [x]=x:=by simp [sv]
def za:∀{l:List Int} {i:Nat} {x:Int},i<l.length->sv (l.set i x)=sv l+1000000000^i*(x-l.getD i 0)
 | [],i,x,h=>by simp at h
 | a::l,0,x,_=>by simp [sv];omega
 | a::l,i+1,x,h=>by
  have ih:=za (l:=l) (i:=i) (x:=x) (by simpa using h);simp only [List.set_cons_succ,sv,List.getD_cons_succ,ih,vN,yaH]
  grind
def Ek {l:List Int} (i:Nat):sv (l.take (i+1))=sv (l.take i)+1000000000^i*l.getD i 0:=by
 by_cases h:i<l.length
 ·rw [List.take_succ_eq_append_getElem h,NO,yN,xX (by omega),ag1]
  grind
 ·rw [yF (by omega),yF (by omega),AY (by omega),Int.mul_zero,Int.add_zero]
def nI:∀{l:List Int},dg l->sv l=dv l
 | [],_=>rfl
 | a::l,h=>by
  obtain ⟨h1,h2⟩:=eU.1 (show dg ([a]++l) from h);have h1:=ig.1 h1;simp only [sv,dv,nI h2,vJ,xC];omega
section
variable {pre x post:List Int} {i:Nat}
def jO:(pre++x++post).length=pre.length+x.length+post.length:=by grind
def oN (h:i<x.length):(pre++x++post).getD (pre.length+i) 0=x.getD i 0:=by grind
def Ez (a:Int) (h:i<x.length):(pre++x++post).set (pre.length+i) a=pre++x.set i a++post:=by simp_all
end
def Ro {l:List Int} {i m:Nat} {x:Int} (h:i≠m):(l.set i x).getD m 0=l.getD m 0:=by simp_all
def Z7 {l:List Int} {i:Nat} {x:Int} (h:i<l.length):(l.set i x).getD i 0=x:=by simp_all
abbrev H3 (q u:List Int) (f:Int):Hp:=[(2,.cells true true true 1 (q.map ab)),(1,.cells true true false 1 (u.map ab)),(0,.cells false true true 1 [ab f])]
def D3 {live:List Nat} {tm:Env} {ct:Nat} {a b c:List AV} (ht:ij 3 (cN tm live)) (hl:(dP (cN tm live)).length<100000):
  bA live ⟨tm,[(2,.cells true true true 1 a),(1,.cells true true false 1 b),(0,.cells false true true 1 c)],ct,3⟩=⟨cN tm live,[(2,.cells true true true 1 a),(1,.cells true true false 1 b),(0,.cells false true true 1 c)],3,3⟩:=
 Mg ht ⟨by omega,.inl rfl,by omega,.inl rfl,by omega,.inl rfl,trivial⟩ (by
  have:cJ 3 [(2,Obj.cells true true true 1 a),(1,Obj.cells true true false 1 b),(0,Obj.cells false true true 1 c)]=[]:=rfl
  rw [this,yZ,xH];exact hl)
structure eA (x vs:List Int) (n v1 v2 u0 u1 u2:Nat):Prop where
 n2:2<=n
 nb:n<=20000000000
 lx:x.length=n+1
 lv:vs.length=n
 gx:dg x
 gv:dg vs
 eO:vs.getD (n-1) 0=(v1:Int)
 cT:vs.getD (n-2) 0=(v2:Int)
 h0:x.getD n 0=(u0:Int)
 h1:x.getD (n-1) 0=(u1:Int)
 h2:x.getD (n-2) 0=(u2:Int)
 pos:0<v1
 lt:dv x<1000000000*dv vs
section
variable {x vs:List Int} {n v1 v2 u0 u1 u2:Nat}
def eA.La (h:eA x vs n v1 v2 u0 u1 u2):v1<1000000000:=by have:=fe h.gv (n-1);rw [h.eO] at this;omega
def eA.Ak (h:eA x vs n v1 v2 u0 u1 u2):v2<1000000000:=by have:=fe h.gv (n-2);rw [h.cT] at this;omega
def eA.Lb (h:eA x vs n v1 v2 u0 u1 u2):u0<1000000000:=by have:=fe h.gx n;rw [h.h0] at this;omega
def eA.Gx (h:eA x vs n v1 v2 u0 u1 u2):u1<1000000000:=by have:=fe h.gx (n-1);rw [h.h1] at this;omega
def eA.Gy (h:eA x vs n v1 v2 u0 u1 u2):u2<1000000000:=by have:=fe h.gx (n-2);rw [h.h2] at this;omega
def eA.parts (h:eA x vs n v1 v2 u0 u1 u2):∃p vr ur,dv vs=(v1*1000000000+v2)*p+vr/\vr<p/\dv x=((u0*1000000000+u1)*1000000000+u2)*p+ur/\ur<p:=by
 obtain ⟨m,hm⟩:∃m,n=m+2:=⟨n-2,by have:=h.n2;omega⟩;subst hm;have e1:=kw (l:=vs) (m+1);have e2:=kw (l:=vs) m;have f0:=kw (l:=x) (m+2);have f1:=kw (l:=x) (m+1);have f2:=kw (l:=x) m;have eO:vs.getD (m+1) 0=(v1:Int):=h.eO;have cT:vs.getD m 0=(v2:Int):=h.cT;have h0:x.getD (m+2) 0=(u0:Int):=h.h0;have h1:x.getD (m+1) 0=(u1:Int):=h.h1;have h2:x.getD m 0=(u2:Int):=h.h2
 rw [yF (by have:=h.lv;omega),eO,e2,cT] at e1
 rw [yF (by have:=h.lx;omega),h0,f1,h1,f2,h2] at f0;simp only [xV] at e1 f0;have g1:=gG (qC h.gv m)
 rw [yN,xX (by have:=h.lv;omega)] at g1;have g2:=gG (qC h.gx m)
 rw [yN,xX (by have:=h.lx;omega)] at g2;refine ⟨1000000000^m,_,_,?_,g1,?_,g2⟩
 ·rw [e1,xq,ait]
 ·rw [f0,show 1000000000^(m+2)=1000000000^m*1000000000*1000000000 by rw [xq,xq],xq,aiu]
def eA.down (h:eA x vs n v1 v2 u0 u1 u2) {t r:Nat} (ht:t*v1+r=u0*1000000000+u1) (hr:r*1000000000+u2<t*v2):dv x/dv vs<=t-1:=by
 obtain ⟨p,vr,ur,h1,h2,h3,h4⟩:=h.parts;exact MO h1 h3 h4 ht hr
def eA.stop (h:eA x vs n v1 v2 u0 u1 u2) {t r:Nat} (iP:t<1000000000) (ht:t*v1+r=u0*1000000000+u1) (hr:1000000000<=r\/t*v2<=r*1000000000+u2):t<=dv x/dv vs+1:=by
 obtain ⟨p,vr,ur,h1,h2,h3,h4⟩:=h.parts;exact NF (by decide) h1 h2 h3 h.pos h.Ak iP ht hr
def eA.first (h:eA x vs n v1 v2 u0 u1 u2):dv x/dv vs<=(u0*1000000000+u1)/v1:=by
 obtain ⟨p,vr,ur,h1,h2,h3,h4⟩:=h.parts;exact Me h1 h3 h4 h.Gy h.pos
def eA.top (h:eA x vs n v1 v2 u0 u1 u2):u0<=v1:=by
 obtain ⟨p,vr,ur,h1,h2,h3,h4⟩:=h.parts;exact NG h1 h3 h2 h.Ak h.lt
def eA.digit (h:eA x vs n v1 v2 u0 u1 u2):dv x/dv vs<1000000000:=by
 refine (uL ?_).2 h.lt;rcases xv (dv vs) with h0 | h0
 ·have:=h.lt;rw [h0] at this;simp at this
 ·exact h0
def eA.small (h:eA x vs n v1 v2 u0 u1 u2) {t r:Nat} (ht:t*v1+r=u0*1000000000+u1) (hb:1000000000<=t):r<1000000000:=by
 have h1:=h.top;have h2:=h.Gx;have h3:=Nat.mul_le_mul_right v1 hb
 grind
end
def aj1 {r u:Nat} (hr:r<1000000000) (hu:u<1000000000):r*1000000000<9223372036854775808/\r*1000000000+u<9223372036854775808:=by omega
section
variable {P:aF} {L:Lib}
def aem {w:AV} {x vs pre post qs:List Int} {f:Int} (hw:aX w vs) {n v1 v2 u0 u1 u2 M:Nat} (hl:eA x vs n v1 v2 u0 u1 u2) (hM:M=pre.length+x.length+post.length) (C3:M<=50000000000):
  ∀k s,(∃t r:Nat,bA [0,1,2,7,9,10] s=⟨[(0,.au 1 0 M),(1,w),(2,ab pre.length),(7,ab n),(9,ab t),(10,ab r)],H3 qs (pre++x++post) f,3,3⟩/\t*v1+r=u0*1000000000+u1/\r<1000000000/\dv x/dv vs<=t/\t=k)->
   ∃ex s',D P L (.loop [0,1,2,7,9,10] oM) s=some (ex,s')/\∃tm ct t,s'=⟨tm,H3 qs (pre++x++post) f,ct,3⟩/\((ex= .exit 0/\ah tm 9=ab (t:Nat))\/(ex= .ret/\ah tm 6=ab (t:Nat)))/\ct=3/\t<1000000000/\dv x/dv vs<=t/\t<=dv x/dv vs+1:=by
 refine dt (I:=fun k s=>∃t r:Nat,s=⟨[(0,.au 1 0 M),(1,w),(2,ab pre.length),(7,ab n),(9,ab t),(10,ab r)],H3 qs (pre++x++post) f,3,3⟩/\t*v1+r=u0*1000000000+u1/\r<1000000000/\dv x/dv vs<=t/\t=k)
  (Q:=fun ex s'=>∃tm ct t,s'=⟨tm,H3 qs (pre++x++post) f,ct,3⟩/\((ex= .exit 0/\ah tm 9=ab (t:Nat))\/(ex= .ret/\ah tm 6=ab (t:Nat)))/\ct=3/\t<1000000000/\dv x/dv vs<=t/\t<=dv x/dv vs+1) ?_
 rintro k s ⟨t,r,rfl,ht,hr,hQ,rfl⟩;have eI:=hl.n2;have CL:=hl.nb;have hlx:=hl.lx;have aj2:=hl.La;have aj3:=hl.Ak;have aj4:=hl.Gy;have aj5:=hl.Lb;have aj6:=hl.Gx;have pk:=hl.pos;have Am:=lB hw (i:=n-2) (by have:=hl.lv;omega);have eP:=lB hw (i:=n-1) (by have:=hl.lv;omega);rw [hl.cT] at Am;rw [hl.eO] at eP;have An:=mv (l:=pre++x++post) (o:=pre.length+(n-2)) (by rw [jO];omega);rw [oN (by omega),hl.h2] at An;have Lg:(n:Int)-2=((n-2:Nat):Int):=by omega
 have Ao:(n:Int)-1=((n-1:Nat):Int):=by omega
 have C4:(pre.length:Int)+(n:Int)=((pre.length+n:Nat):Int):=rfl;have Lh:((pre.length+n:Nat):Int)-2=((pre.length+(n-2):Nat):Int):=by omega
 have anj:t<=1000000000000000000:=by
  have:=xn t pk
  omega
 have ank:t*1<=t*v1:=xn t pk;obtain ⟨Li,Lj⟩:=aj1 hr aj4;by_cases mX:1000000000<=t\/r*1000000000+u2<t*v2
 ·have ht0:0<t:=by
   rcases xv t with h0 | h0
   ·subst h0;omega
   ·exact h0
  have h1:(t-1)*v1+(r+v1)=u0*1000000000+u1:=by
   obtain ⟨p,rfl⟩:∃p,t=p+1:=⟨t-1,by omega⟩;rw [w7,Nat.one_mul] at ht;rw [Nat.add_sub_cancel];omega
  have Ap:dv x/dv vs<=t-1:=by
   rcases mX with h | h
   ·have:=hl.digit;generalize dv x/dv vs=q at*;omega
   ·exact hl.down ht h
  have GB:((t:Nat):Int)-1=((t-1:Nat):Int):=by omega
  have stop:1000000000<=r+v1->t-1<1000000000/\t-1<=dv x/dv vs+1:=fun hb=>by
   have aV:t-1<1000000000:=by
    by_cases pJ:1000000000<=t-1
    ·have:=hl.small h1 pJ;omega
    ·omega
   exact ⟨aV,hl.stop aV h1 (.inl hb)⟩
  by_cases hb:1000000000<=t
  ·by_cases eH:1000000000<=r+v1
   ·right
    obtain ⟨s1,s2⟩:=stop eH
    simp only [go_sem,ya,oM,H3,show (1000000000:Int)<=(t:Int) by omega,GB,wrapN (n:=t-1) (by omega),Ao,wrapN (n:=n-1) (by omega),eP,show (r:Int)+(v1:Int)=((r+v1:Nat):Int) from rfl,wrapN (n:=r+v1) (by omega),show (1000000000:Int)<=((r+v1:Nat):Int) by omega];exact ⟨_,_,rfl,by simp,_,_,t-1,rfl,.inr ⟨rfl,by simp only [go_sem]⟩,rfl,s1,Ap,s2⟩
   ·left
    simp only [go_sem,ya,oM,H3,show (1000000000:Int)<=(t:Int) by omega,GB,wrapN (n:=t-1) (by omega),Ao,wrapN (n:=n-1) (by omega),eP,show (r:Int)+(v1:Int)=((r+v1:Nat):Int) from rfl,wrapN (n:=r+v1) (by omega),show ¬(1000000000:Int)<=((r+v1:Nat):Int) by omega];refine ⟨_,t-1,rfl,by omega,t-1,r+v1,?_,h1,by omega,Ap,rfl⟩;rw [D3 (by simp only [go_sem,ya,yV,Ey,I9,Ej,D2,qg hw.pu,and_true]) (by simp only [go_sem,ya,yc,yV,a6 hw.pu])];simp only [go_sem,ya]
  ·have pO:=yX (show t<=999999999 by omega) (show v2<=999999999 by omega);have J9:r*1000000000+u2<t*v2:=mX.resolve_left hb;obtain ⟨m,hm⟩:∃m,t*v2=m:=⟨_,rfl⟩;have em:(t:Int)*(v2:Int)=(m:Int):=by rw [<-hm,xC]
   rw [hm] at J9 pO;have GC:(r:Int)*1000000000=((r*1000000000:Nat):Int):=by omega
   have GD:((r*1000000000:Nat):Int)+(u2:Int)=((r*1000000000+u2:Nat):Int):=rfl;by_cases eH:1000000000<=r+v1
   ·right
    obtain ⟨s1,s2⟩:=stop eH
    simp only [go_sem,ya,yv,oM,H3,show ¬(1000000000:Int)<=(t:Int) by omega,Lg,wrapN (n:=n-2) (by omega),Am,em,wrapN (n:=m) (by omega),GC,wrapN Li,C4,wrapN (n:=pre.length+n) (by omega),Lh,wrapN (n:=pre.length+(n-2)) (by omega),fX 1 0 (show pre.length+(n-2)<M by omega),yp,An,GD,wrapN Lj,show ((r*1000000000+u2:Nat):Int)<(m:Int) from vj.2 J9,GB,wrapN (n:=t-1) (by omega),Ao,wrapN (n:=n-1) (by omega),eP,show (r:Int)+(v1:Int)=((r+v1:Nat):Int) from rfl,wrapN (n:=r+v1) (by omega),show (1000000000:Int)<=((r+v1:Nat):Int) by omega];exact ⟨_,_,rfl,by simp,_,_,t-1,rfl,.inr ⟨rfl,by simp only [go_sem]⟩,rfl,s1,Ap,s2⟩
   ·left
    simp only [go_sem,ya,yv,oM,H3,show ¬(1000000000:Int)<=(t:Int) by omega,Lg,wrapN (n:=n-2) (by omega),Am,em,wrapN (n:=m) (by omega),GC,wrapN Li,C4,wrapN (n:=pre.length+n) (by omega),Lh,wrapN (n:=pre.length+(n-2)) (by omega),fX 1 0 (show pre.length+(n-2)<M by omega),yp,An,GD,wrapN Lj,show ((r*1000000000+u2:Nat):Int)<(m:Int) from vj.2 J9,GB,wrapN (n:=t-1) (by omega),Ao,wrapN (n:=n-1) (by omega),eP,show (r:Int)+(v1:Int)=((r+v1:Nat):Int) from rfl,wrapN (n:=r+v1) (by omega),show ¬(1000000000:Int)<=((r+v1:Nat):Int) by omega];refine ⟨_,t-1,rfl,by omega,t-1,r+v1,?_,h1,by omega,Ap,rfl⟩;rw [D3 (by simp only [go_sem,ya,yV,Ey,I9,Ej,D2,qg hw.pu,and_true]) (by simp only [go_sem,ya,yc,yV,a6 hw.pu])];simp only [go_sem,ya]
 ·right
  have iP:t<1000000000:=Nat.lt_of_not_le fun e=>mX (.inl e)
  have pO:=yX (show t<=999999999 from uh iP) (show v2<=999999999 from uh aj3);have Ka:t*v2<=r*1000000000+u2:=Nat.le_of_not_lt fun e=>mX (.inr e)
  have aiB:=hl.stop iP ht (.inr Ka);obtain ⟨m,hm⟩:∃m,t*v2=m:=⟨_,rfl⟩;have em:(t:Int)*(v2:Int)=(m:Int):=by rw [<-hm,xC]
  rw [hm] at Ka pO;have GC:(r:Int)*1000000000=((r*1000000000:Nat):Int):=by omega
  have GD:((r*1000000000:Nat):Int)+(u2:Int)=((r*1000000000+u2:Nat):Int):=rfl
  simp only [go_sem,ya,yv,oM,H3,show ¬(1000000000:Int)<=(t:Int) by omega,Lg,wrapN (n:=n-2) (by omega),Am,em,wrapN (n:=m) (by omega),GC,wrapN Li,C4,wrapN (n:=pre.length+n) (by omega),Lh,wrapN (n:=pre.length+(n-2)) (by omega),fX 1 0 (show pre.length+(n-2)<M by omega),yp,An,GD,wrapN Lj,show ¬((r*1000000000+u2:Nat):Int)<(m:Int) from fun e=>Nat.not_lt_of_le Ka (vj.1 e)];exact ⟨_,_,rfl,by simp,_,_,t,rfl,.inl ⟨rfl,by simp only [go_sem,ya]⟩,rfl,iP,hQ,aiB⟩
def aiC (h:Has P L 301 nQ) {w:AV} {x vs pre post qs:List Int} {f:Int} (hw:aX w vs) {n v1 v2 u0 u1 u2 M:Nat} (hl:eA x vs n v1 v2 u0 u1 u2) (hM:M=pre.length+x.length+post.length) (C3:M<=50000000000):
  ∃t:Nat,fK P L (D P L) (H3 qs (pre++x++post) f) 3 301 [.au 1 0 M,w,ab pre.length]=some (ab t,H3 qs (pre++x++post) f,3)/\t<1000000000/\dv x/dv vs<=t/\t<=dv x/dv vs+1:=by
 have eI:=hl.n2;have CL:=hl.nb;have hlx:=hl.lx;have Wh:below 3 w:=qg hw.pu;have aj2:=hl.La;have aj5:=hl.Lb;have aj6:=hl.Gx;have pk:=hl.pos;have eP:=lB hw (i:=n-1) (by have:=hl.lv;omega);rw [hl.eO] at eP;have GF:=mv (l:=pre++x++post) (o:=pre.length+n) (by rw [jO];omega);rw [oN (by omega),hl.h0] at GF;have GG:=mv (l:=pre++x++post) (o:=pre.length+(n-1)) (by rw [jO];omega);rw [oN (by omega),hl.h1] at GG;have Ao:(n:Int)-1=((n-1:Nat):Int):=by omega
 have C4:(pre.length:Int)+(n:Int)=((pre.length+n:Nat):Int):=rfl;have pn1:((pre.length+n:Nat):Int)-1=((pre.length+(n-1):Nat):Int):=by omega
 obtain ⟨m,hm⟩:∃m,m=u0*1000000000+u1:=⟨_,rfl⟩;have em:(u0:Int)*1000000000=((u0*1000000000:Nat):Int):=by omega
 have em2:((u0*1000000000:Nat):Int)+(u1:Int)=(m:Int):=by omega
 have kg:=vY m v1;have Co:=ve m pk;have Rr:=hl.first;rw [<-hm] at Rr;have an1:m/v1<=m:=Nat.div_le_self _ _;have oq:IntKind.wrap .i64 ((m:Int).tdiv (v1:Int))=((m/v1:Nat):Int):=by
  rw [xB (by omega),<-Int.natCast_ediv,wrapN (by omega)]
 have or':(m:Int).tmod (v1:Int)=((m%v1:Nat):Int):=by rw [xp (by omega),<-Int.natCast_emod]
 rw [uJ] at kg;generalize m/v1=q0 at*
 generalize m%v1=r0 at*
 have rJ:∃ex tm t,D P L nQ.body ⟨eV 0 [.au 1 0 M,w,ab pre.length],H3 qs (pre++x++post) f,3,3⟩=some (ex,⟨tm,H3 qs (pre++x++post) f,3,3⟩)/\(ex= .normal\/ex= .ret)/\ah tm 6=ab (t:Nat)/\t<1000000000/\dv x/dv vs<=t/\t<=dv x/dv vs+1:=by
  simp only [go_sem,ya,yv,nQ,H3,hw.len,hl.lv,C4,wrapN (n:=pre.length+n) (by omega),fX 1 0 (show pre.length+n<M by omega),yp,GF,em,wrapN (n:=u0*1000000000) (by omega),pn1,wrapN (n:=pre.length+(n-1)) (by omega),fX 1 0 (show pre.length+(n-1)<M by omega),GG,em2,wrapN (n:=m) (by omega),Ao,wrapN (n:=n-1) (by omega),eP,dX _ _ _ (show (v1:Int)≠0 by omega),eJ _ _ _ (show (v1:Int)≠0 by omega),oq,or'];generalize GH:D P L (.loop [0,1,2,7,9,10] oM) _=qq;obtain ⟨ex,s,rfl,tm,ct,t,rfl,zF,rfl,g1,g2,g3⟩:=cW GH (aem (P:=P) (L:=L) (qs:=qs) (f:=f) hw hl hM C3 q0) ⟨q0,r0,by
   rw [D3 (by simp only [go_sem,ya,yV,Ey,I9,Ej,D2,Wh,and_true]) (by simp only [go_sem,ya,yc,yV,a6 hw.pu])]
   simp only [go_sem,ya],by omega,by omega,Rr,rfl⟩
  rcases zF with ⟨rfl,h9⟩ | ⟨rfl,h6⟩
  ·simp only [go_sem,yV,H3,D3,Ey,Ej,D2,h9,and_self];exact ⟨_,_,t,rfl,.inr rfl,by simp only [go_sem],g1,g2,g3⟩
  ·simp only [go_sem];exact ⟨_,_,t,rfl,.inr rfl,h6,g1,g2,g3⟩
 obtain ⟨ex,tm,t,g1,g2,g3,g4,g5,g6⟩:=rJ;exact ⟨t,IM h g1 g2 (by show fT _ [RV.t 6]=_;rw [JT,Jt,g3]),g4,g5,g6⟩
end
end
section
open Go (IntKind)
def aj7 {t v bo:Int} (ht:0<=t/\t<1000000000) (hv:0<=v/\v<1000000000) (hb:0<=bo/\bo<1000000000):0<=t*v/\t*v<=999999998000000001/\0<=t*v+bo/\t*v+bo<=999999999000000000:=by
 have h1:=wL ht.1 hv.1;have h2:=yan (show t<=999999999 by omega) (show v<=999999999 by omega) hv.1 (by decide);omega
def aj8 {x p:Int} (hx:0<=x/\x<1000000000) (hp:0<=p/\p<=999999999000000000):
  (x-p.tmod 1000000000<0->0<=x-p.tmod 1000000000+1000000000/\x-p.tmod 1000000000+1000000000<1000000000/\0<=p.tdiv 1000000000+1/\p.tdiv 1000000000+1<1000000000/\x-p.tmod 1000000000+1000000000+p=x+1000000000*(p.tdiv 1000000000+1))/\
  (¬x-p.tmod 1000000000<0->x-p.tmod 1000000000<1000000000/\0<=p.tdiv 1000000000/\p.tdiv 1000000000<1000000000/\x-p.tmod 1000000000+p=x+1000000000*p.tdiv 1000000000):=by grind
def IN {l:List Int} (h:dg l) {i:Nat} {z:Int} (hz:0<=z/\z<1000000000):dg (l.set i z):=Et h hz
def aen {b p z q v bo Aq x X Y S:Int} (h2:z+(q*v+bo)=x+b*Aq) (h3:Y+q*X=S+p*bo):(Y+p*(z-x))+q*(X+p*v)=S+p*b*Aq:=by grind
section
variable {P:aF} {L:Lib}
def aeo {w:AV} {x vs pre post qs:List Int} {f:Int} (hw:aX w vs) {n M m:Nat} (lv:vs.length=n) (hM:M=pre.length+(n+1)+post.length) (C3:M<=50000000000) (gv:dg vs) {t:Int} (ht:0<=t/\t<1000000000):
  ∀k s,(∃(i:Nat) (bo:Int) (y:List Int),bA [8,9,10,11,12,13,14,15,16] s=⟨[(8,.au 0 0 1),(9,w),(10,ab n),(11,.au 1 0 M),(12,.au 2 0 m),(13,ab pre.length),(14,ab t),(15,ab bo),(16,ab i)],H3 qs (pre++y++post) f,3,0⟩/\i+k=n/\y.length=n+1/\dg y/\(0<=bo/\bo<1000000000)/\
    sv y+t*sv (vs.take i)=sv x+1000000000^i*bo)->
   ∃ex s',D P L (.loop [8,9,10,11,12,13,14,15,16] s6) s=some (ex,s')/\∃tm bo y,s'=⟨tm,H3 qs (pre++y++post) f,3,0⟩/\ex= .exit 4/\ah tm 8= .au 0 0 1/\ah tm 9=w/\ah tm 10=ab n/\ah tm 11= .au 1 0 M/\ah tm 12= .au 2 0 m/\ah tm 13=ab pre.length/\ah tm 14=ab t/\ah tm 15=ab bo/\y.length=n+1/\dg y/\(0<=bo/\bo<1000000000)/\
    sv y+t*sv vs=sv x+1000000000^n*bo:=by
 refine dt (I:=fun k s=>∃(i:Nat) (bo:Int) (y:List Int),s=⟨[(8,.au 0 0 1),(9,w),(10,ab n),(11,.au 1 0 M),(12,.au 2 0 m),(13,ab pre.length),(14,ab t),(15,ab bo),(16,ab i)],H3 qs (pre++y++post) f,3,0⟩/\i+k=n/\y.length=n+1/\dg y/\(0<=bo/\bo<1000000000)/\
    sv y+t*sv (vs.take i)=sv x+1000000000^i*bo)
  (Q:=fun ex s'=>∃tm bo y,s'=⟨tm,H3 qs (pre++y++post) f,3,0⟩/\ex= .exit 4/\ah tm 8= .au 0 0 1/\ah tm 9=w/\ah tm 10=ab n/\ah tm 11= .au 1 0 M/\ah tm 12= .au 2 0 m/\ah tm 13=ab pre.length/\ah tm 14=ab t/\ah tm 15=ab bo/\y.length=n+1/\dg y/\(0<=bo/\bo<1000000000)/\
    sv y+t*sv vs=sv x+1000000000^n*bo) ?_
 rintro k s ⟨i,bo,y,rfl,hk,ly,gy,Lk,bi⟩;by_cases hi:i<n
 ·left
  have GI:=fe gv i;have C5:=fe gy i;have ev:=lB hw (i:=i) (by omega);have ey:=mv (l:=pre++y++post) (o:=pre.length+i) (by rw [jO];omega);rw [oN (by omega)] at ey;have jf:=Ek (l:=vs) i;obtain ⟨a,ha⟩:∃a,a=vs.getD i 0:=⟨_,rfl⟩;obtain ⟨d,hd⟩:∃d,d=y.getD i 0:=⟨_,rfl⟩;rw [<-ha] at GI ev jf;rw [<-hd] at C5 ey;obtain ⟨p1,p2,p3,p4⟩:=aj7 ht GI Lk;obtain ⟨s1,s2⟩:=aj8 C5 ⟨p3,p4⟩;have fB:(i:Int)+(pre.length:Int)=((pre.length+i:Nat):Int):=by omega
  have aT:=fun (hp:Hp) (ct:Nat) (z:Int)=>pW (hp:=hp) (ct:=ct) (id:=1) (v:=z) (ex:=false) (l:=pre++y++post) (o:=pre.length+i) (by rw [jO];omega)
  have rK:=fun z=>Ez (pre:=pre) (x:=y) (post:=post) (i:=i) z (by omega)
  have aY:=fun z=>za (l:=y) (i:=i) (x:=z) (by omega)
  rw [<-hd] at aY;obtain ⟨pr,pz⟩:∃pr,pr=t*a+bo:=⟨_,rfl⟩;obtain ⟨dm,kg⟩:∃dm,pr.tmod 1000000000=dm:=⟨_,rfl⟩;obtain ⟨dq,GJ⟩:∃dq,pr.tdiv 1000000000=dq:=⟨_,rfl⟩;have an2:0<=dm/\dm<1000000000:=by rw [<-kg,xp (by omega)];omega
  have an3:0<=dq/\dq<1000000000:=by rw [<-GJ,xB (by omega)];omega
  rw [<-pz,kg,GJ] at s1 s2;have key:∀z Aq,z+(t*a+bo)=d+1000000000*Aq->sv (y.set i z)+t*sv (vs.take (i+1))=sv x+1000000000^(i+1)*Aq:=fun z Aq h=>by
   rw [aY,jf,vN];exact aen h bi
  rw [<-pz] at key;by_cases dU:d-dm<0
  ·obtain ⟨q1,q2,q3,q4,q5⟩:=s1 dU;have kk:=key _ _ q5;obtain ⟨dr,iR⟩:∃dr,d-dm=dr:=⟨_,rfl⟩;rw [iR] at dU kk q1 q2
   simp only [go_sem,ya,yv,s6,H3,show (i:Int)<(n:Int) by omega,ev,wrap64 (n:=t*a) (by omega) (by omega),<-pz,wrap64 (n:=pr) (by omega) (by omega),fB,wrapN (n:=pre.length+i) (by omega),fX 1 0 (show pre.length+i<M by omega),yp,ey,eJ _ _ _ (show (1000000000:Int)≠0 by decide),dX _ _ _ (show (1000000000:Int)≠0 by decide),kg,GJ,iR,wrap64 (n:=dr) (by omega) (by omega),wrap64 (n:=dq) (by omega) (by omega),dU,wrap64 (n:=dr+1000000000) (by omega) (by omega),wrap64 (n:=dq+1) (by omega) (by omega),aT,rK];refine ⟨_,k-1,rfl,by omega,i+1,dq+1,y.set i (dr+1000000000),?_,by omega,by simp [ly],IN gy ⟨q1,q2⟩,⟨q3,q4⟩,kk⟩;rw [wrap64 (by omega) (by omega)];simp only [go_sem,ya,yc,aM,a6 hw.pu,bc _ hw.pu]<;>rfl
  ·obtain ⟨q2,q3,q4,q5⟩:=s2 dU;have kk:=key _ _ q5;obtain ⟨dr,iR⟩:∃dr,d-dm=dr:=⟨_,rfl⟩;rw [iR] at dU kk q2
   simp only [go_sem,ya,yv,s6,H3,show (i:Int)<(n:Int) by omega,ev,wrap64 (n:=t*a) (by omega) (by omega),<-pz,wrap64 (n:=pr) (by omega) (by omega),fB,wrapN (n:=pre.length+i) (by omega),fX 1 0 (show pre.length+i<M by omega),yp,ey,eJ _ _ _ (show (1000000000:Int)≠0 by decide),dX _ _ _ (show (1000000000:Int)≠0 by decide),kg,GJ,iR,wrap64 (n:=dr) (by omega) (by omega),wrap64 (n:=dq) (by omega) (by omega),dU,aT,rK];refine ⟨_,k-1,rfl,by omega,i+1,dq,y.set i dr,?_,by omega,by simp [ly],IN gy ⟨by omega,q2⟩,⟨q3,q4⟩,kk⟩;rw [wrap64 (by omega) (by omega)];simp only [go_sem,ya,yc,aM,a6 hw.pu,bc _ hw.pu]<;>rfl
 ·right
  have:i=n:=by omega
  subst this;rw [yF (by omega)] at bi;simp only [go_sem,ya,s6,H3,show ¬(i:Int)<(i:Int) by omega];exact ⟨_,_,rfl,by simp,_,bo,y,rfl,rfl,by simp only [go_sem,ya],by simp only [go_sem,ya],by simp only [go_sem,ya],by simp only [go_sem,ya],by simp only [go_sem,ya],by simp only [go_sem,ya],by simp only [go_sem,ya],by simp only [go_sem,ya],ly,gy,Lk,bi⟩
def aep {b p z v c c' x X Y S:Int} (h2:z+b*c'=x+v+c) (h3:Y+p*c=S+X):(Y+p*(z-x))+p*b*c'=S+(X+p*v):=by grind
def aeq {w:AV} {y0 vs pre post qs:List Int} {f:Int} (hw:aX w vs) {n M m:Nat} (lv:vs.length=n) (hM:M=pre.length+(n+1)+post.length) (C3:M<=50000000000) (gv:dg vs) {t top:Int}:
  ∀k s,(∃(i:Nat) (c:Int) (y:List Int),bA [8,9,10,11,12,13,14,19,20] s=⟨[(8,.au 0 0 1),(9,w),(10,ab n),(11,.au 1 0 M),(12,.au 2 0 m),(13,ab pre.length),(14,ab t),(19,ab c),(20,ab i)],H3 qs (pre++y++post) f,3,0⟩/\i+k=n/\y.length=n+1/\dg (y.take n)/\y.getD n 0=top/\(0<=c/\c<=1)/\
    sv y+1000000000^i*c=sv y0+sv (vs.take i))->
   ∃ex s',D P L (.loop [8,9,10,11,12,13,14,19,20] Bl) s=some (ex,s')/\∃tm c y,s'=⟨tm,H3 qs (pre++y++post) f,3,0⟩/\ex= .exit 6/\ah tm 8= .au 0 0 1/\ah tm 9=w/\ah tm 10=ab n/\ah tm 11= .au 1 0 M/\ah tm 12= .au 2 0 m/\ah tm 13=ab pre.length/\ah tm 14=ab t/\ah tm 19=ab c/\y.length=n+1/\dg (y.take n)/\y.getD n 0=top/\(0<=c/\c<=1)/\
    sv y+1000000000^n*c=sv y0+sv vs:=by
 refine dt (I:=fun k s=>∃(i:Nat) (c:Int) (y:List Int),s=⟨[(8,.au 0 0 1),(9,w),(10,ab n),(11,.au 1 0 M),(12,.au 2 0 m),(13,ab pre.length),(14,ab t),(19,ab c),(20,ab i)],H3 qs (pre++y++post) f,3,0⟩/\i+k=n/\y.length=n+1/\dg (y.take n)/\y.getD n 0=top/\(0<=c/\c<=1)/\
    sv y+1000000000^i*c=sv y0+sv (vs.take i))
  (Q:=fun ex s'=>∃tm c y,s'=⟨tm,H3 qs (pre++y++post) f,3,0⟩/\ex= .exit 6/\ah tm 8= .au 0 0 1/\ah tm 9=w/\ah tm 10=ab n/\ah tm 11= .au 1 0 M/\ah tm 12= .au 2 0 m/\ah tm 13=ab pre.length/\ah tm 14=ab t/\ah tm 19=ab c/\y.length=n+1/\dg (y.take n)/\y.getD n 0=top/\(0<=c/\c<=1)/\
    sv y+1000000000^n*c=sv y0+sv vs) ?_
 rintro k s ⟨i,c,y,rfl,hk,ly,gy,rL,hc,bi⟩;by_cases hi:i<n
 ·left
  have GI:=fe gv i;have C5:=fe gy i;have e0:(y.take n).getD i 0=y.getD i 0:=by
   simp [xD,hi]
  rw [e0] at C5;have ev:=lB hw (i:=i) (by omega);have ey:=mv (l:=pre++y++post) (o:=pre.length+i) (by rw [jO];omega);rw [oN (by omega)] at ey;have jf:=Ek (l:=vs) i;obtain ⟨a,ha⟩:∃a,a=vs.getD i 0:=⟨_,rfl⟩;obtain ⟨d,hd⟩:∃d,d=y.getD i 0:=⟨_,rfl⟩;rw [<-ha] at GI ev jf;rw [<-hd] at C5 ey;have fB:(i:Int)+(pre.length:Int)=((pre.length+i:Nat):Int):=by omega
  have aY:=fun z=>za (l:=y) (i:=i) (x:=z) (by omega)
  rw [<-hd] at aY;have Co:(d+a+c).tmod 1000000000=(d+a+c)%1000000000:=xp (by omega);have hdiv:(d+a+c).tdiv 1000000000=(d+a+c)/1000000000:=xB (by omega);obtain ⟨z,hz⟩:∃z,z=(d+a+c)%1000000000:=⟨_,rfl⟩;obtain ⟨c',sf⟩:∃z,z=(d+a+c)/1000000000:=⟨_,rfl⟩;have Ko:z+1000000000*c'=d+a+c:=by omega
  rw [<-hz] at Co;rw [<-sf] at hdiv;have aT:=fun (hp:Hp) (ct:Nat)=>pW (hp:=hp) (ct:=ct) (id:=1) (v:=z) (ex:=false) (l:=pre++y++post) (o:=pre.length+i) (by rw [jO];omega)
  have rK:=Ez (pre:=pre) (x:=y) (post:=post) (i:=i) z (by omega)
  simp only [go_sem,ya,yv,Bl,H3,show (i:Int)<(n:Int) by omega,ev,fB,wrapN (n:=pre.length+i) (by omega),fX 1 0 (show pre.length+i<M by omega),yp,ey,wrap64 (n:=d+a) (by omega) (by omega),wrap64 (n:=d+a+c) (by omega) (by omega),eJ _ _ _ (show (1000000000:Int)≠0 by decide),dX _ _ _ (show (1000000000:Int)≠0 by decide),Co,hdiv,wrap64 (n:=c') (by omega) (by omega),aT,rK];refine ⟨_,k-1,rfl,by omega,i+1,c',y.set i z,?_,by omega,by simp [ly],?_,by rw [Ro (by omega)];exact rL,⟨by omega,by omega⟩,?_⟩
  ·rw [wrap64 (by omega) (by omega)];simp only [go_sem,ya,yc,aM,a6 hw.pu,bc _ hw.pu]<;>rfl
  ·rw [uo];exact IN gy ⟨by omega,by omega⟩
  ·rw [aY,jf,vN];exact aep Ko bi
 ·right
  have:i=n:=by omega
  subst this;rw [yF (show vs.length<=i by omega)] at bi;simp only [go_sem,ya,Bl,H3,show ¬(i:Int)<(i:Int) by omega];exact ⟨_,_,rfl,by simp,_,c,y,rfl,rfl,by simp only [go_sem,ya],by simp only [go_sem,ya],by simp only [go_sem,ya],by simp only [go_sem,ya],by simp only [go_sem,ya],by simp only [go_sem,ya],by simp only [go_sem,ya],by simp only [go_sem,ya],ly,gy,rL,hc,bi⟩
def aer {A V t:Nat} {y:List Int} {n:Nat} (hV:0<V) (ly:y.length=n+1) (gy:dg (y.take n)) (h:sv y=(A:Int)-t*V) (h1:A/V<=t) (h2:t<=A/V+1):
  (¬y.getD n 0<0->t=A/V/\sv y=((A%V:Nat):Int))/\(y.getD n 0<0->t=A/V+1/\sv y+V=((A%V:Nat):Int)):=by
 have kg:=vY A V;have hm:=ve A hV;have jf:=Ek (l:=y) n;rw [yF (by omega),nI gy] at jf;have UG:=gG gy;have hp:(0:Int)<1000000000^n:=yaV (by decide);generalize y.getD n 0=top at*
 generalize A/V=Q at*
 have hq:t=Q\/t=Q+1:=by omega
 constructor
 ·intro h0;have h3:0<=(1000000000:Int)^n*top:=wL (vP hp) (by omega);rcases hq with rfl | rfl
  ·grind
  ·grind
 ·intro h0;have h3:(1000000000:Int)^n*top<=-(1000000000^n):=by
   have:=we (show top<=-1 by omega) (vP hp)
   grind
  rcases hq with rfl | rfl
  ·grind
  ·grind
def OH {y:List Int} {n:Nat} (ly:y.length=n+1) (gy:dg (y.take n)) (h0:0<=sv y) (h1:sv y<1000000000^n):y.getD n 0=0/\dg y/\sv y=dv y:=by
 have jf:=Ek (l:=y) n;rw [yF (by omega),nI gy] at jf;have UG:=gG gy;rw [yN,xX (by omega)] at UG;have hp:(0:Int)<1000000000^n:=yaV (by decide);have zk:((1000000000^n:Nat):Int)=(1000000000:Int)^n:=by simp
 have anl:(dv (y.take n):Int)<1000000000^n:=by omega
 have ht:y.getD n 0=0:=by
  generalize y.getD n 0=top at*
  rcases Int.lt_trichotomy top 0 with h | h | h
  ·have:=we (show top<=-1 by omega) (vP hp)
   grind
  ·grind
  ·have:=we (show 1<=top by omega) (vP hp)
   grind
 have hg:dg y:=by
  have e:y=y.take n++[0]:=by
   have h1:y=y.take n++y.drop n:=(xW n y).symm;have h2:y.drop n=[0]:=by
    rw [yT (by omega),xr (by omega)]
    grind
   grind
  rw [e];exact eU.2 ⟨gy,ig.2 ⟨by decide,by decide⟩⟩
 exact ⟨ht,hg,nI hg⟩
end
end
section
open Go (IntKind)
def aes {l:List Int} {i:Nat} (h:i<l.length):dv (l.drop i)=(l.getD i 0).toNat+1000000000*dv (l.drop (i+1)):=by
 rw [yT h]
 have:l[i]=l.getD i 0:=by simp_all
 rw [this];rfl
def Im (l:List Int) (i:Nat) (h:i<=l.length):dv l=dv (l.take i)+1000000000^i*dv (l.drop i):=by
 conv=>lhs;rw [<-xW i l]
 rw [iT,yN,xX h]
def aet {sx sy sV:Int} {p:Int} {bo t:Int} {yn z:Int} {Wi:Int} (h1:sy+t*sV=sx+p*bo) (h2:Wi=sy+p*(z-yn)) (h3:z=yn-bo):Wi=sx-t*sV:=by grind
section
variable {P:aF} {L:Lib}
def aeu (lH:Has P L 301 nQ) {w:AV} {vs:List Int} {f:Int} (hw:aX w vs) (gv:dg vs) {n M m:Nat} (lv:vs.length=n) (eI:2<=n) (hnM:n<M) (C3:M<=20000000000) (hm:m=M-n) (eO:0<vs.getD (n-1) 0) {U0:Nat}:
  ∀k st,(∃(j:Nat) (us qs:List Int),bA [8,9,10,11,12,13] st=⟨[(8,.au 0 0 1),(9,w),(10,ab n),(11,.au 1 0 M),(12,.au 2 0 m),(13,ab ((j:Int)-1))],H3 qs us f,3,0⟩/\j=k/\j<=m/\us.length=M/\qs.length=m/\dg us/\dg qs/\(∀i,i<j->qs.getD i 0=0)/\
    dv us+dv qs*dv vs=U0/\dv (us.drop j)<dv vs)->
   ∃ex st',D P L (.loop [8,9,10,11,12,13] Bm) st=some (ex,st')/\∃tm us qs,st'=⟨tm,H3 qs us f,3,0⟩/\ex= .exit 2/\ah tm 8= .au 0 0 1/\ah tm 10=ab n/\ah tm 11= .au 1 0 M/\ah tm 12= .au 2 0 m/\us.length=M/\qs.length=m/\dg us/\dg qs/\
    dv us+dv qs*dv vs=U0/\dv us<dv vs:=by
 refine dt (I:=fun k st=>∃(j:Nat) (us qs:List Int),st=⟨[(8,.au 0 0 1),(9,w),(10,ab n),(11,.au 1 0 M),(12,.au 2 0 m),(13,ab ((j:Int)-1))],H3 qs us f,3,0⟩/\j=k/\j<=m/\us.length=M/\qs.length=m/\dg us/\dg qs/\(∀i,i<j->qs.getD i 0=0)/\
    dv us+dv qs*dv vs=U0/\dv (us.drop j)<dv vs)
  (Q:=fun ex st'=>∃tm us qs,st'=⟨tm,H3 qs us f,3,0⟩/\ex= .exit 2/\ah tm 8= .au 0 0 1/\ah tm 10=ab n/\ah tm 11= .au 1 0 M/\ah tm 12= .au 2 0 m/\us.length=M/\qs.length=m/\dg us/\dg qs/\
    dv us+dv qs*dv vs=U0/\dv us<dv vs) ?_
 rintro k st ⟨j,us,qs,rfl,rfl,hj,lu,lq,gu,gq,hz,bi,rL⟩
 cases j with
 | zero=>
  right
  simp only [go_sem,ya,Bm,H3,show ¬(0:Int)<=((0:Nat):Int)-1 by omega];exact ⟨_,_,rfl,by simp,_,us,qs,rfl,rfl,by simp only [go_sem,ya],by simp only [go_sem,ya],by simp only [go_sem,ya],by simp only [go_sem,ya],lu,lq,gu,gq,bi,by simpa using rL⟩
 | succ j=>
  left
  obtain ⟨pre,fB⟩:∃p,p=us.take j:=⟨_,rfl⟩;obtain ⟨x,hx⟩:∃p,p=(us.drop j).take (n+1):=⟨_,rfl⟩;obtain ⟨post,fZ⟩:∃p,p=us.drop (j+(n+1)):=⟨_,rfl⟩;have lp:pre.length=j:=by rw [fB,yN];omega
  have lx:x.length=n+1:=by rw [hx,yN,wv];omega
  have Wj:M=pre.length+(n+1)+post.length:=by rw [lp,fZ,wv];omega
  have jN:us=pre++x++post:=by
   rw [fB,hx,fZ,<-wR,y7,xW,xW]
  have gpo:dg post:=by
   have:=gu;rw [jN] at this;exact (eU.1 this).2
  have Wk:=by have:=gu;rw [jN] at this;exact (eU.1 this).1
  have gx:dg x:=(eU.1 Wk).2;have aj9:dg pre:=(eU.1 Wk).1;have hA:=aes (l:=us) (i:=j) (by omega);have hgj:=fe gu j;have hdx:us.drop j=x++post:=by rw [fZ,hx,<-wR,xW]
  have GK:dv (us.drop j)=dv x+1000000000^(n+1)*dv post:=by rw [hdx,iT,lx]
  have hVn:=gG gv;rw [lv] at hVn;have aV:dv (us.drop j)<1000000000*dv vs:=by omega
  have hp0:dv post=0:=by
   rcases xv (dv post) with e | e
   ·exact e
   ·have h1:=xn (1000000000^(n+1)) e;rw [yv,xq] at h1;rw [xq] at GK;omega
  rw [hp0,wz,xH] at GK;have C6:=fun (l:List Int) (hl:dg l) (i:Nat)=>fe hl i
  obtain ⟨v1,eP⟩:∃v:Nat,vs.getD (n-1) 0=v:=⟨(vs.getD (n-1) 0).toNat,by have:=C6 vs gv (n-1);omega⟩;obtain ⟨v2,Am⟩:∃v:Nat,vs.getD (n-2) 0=v:=⟨(vs.getD (n-2) 0).toNat,by have:=C6 vs gv (n-2);omega⟩;obtain ⟨u0,GF⟩:∃v:Nat,x.getD n 0=v:=⟨(x.getD n 0).toNat,by have:=C6 x gx n;omega⟩;obtain ⟨u1,GG⟩:∃v:Nat,x.getD (n-1) 0=v:=⟨(x.getD (n-1) 0).toNat,by have:=C6 x gx (n-1);omega⟩;obtain ⟨u2,An⟩:∃v:Nat,x.getD (n-2) 0=v:=⟨(x.getD (n-2) 0).toNat,by have:=C6 x gx (n-2);omega⟩;have hl:eA x vs n v1 v2 u0 u1 u2:=⟨eI,by omega,lx,lv,gx,gv,eP,Am,GF,GG,An,by omega,by rw [<-GK];exact aV⟩
  have aka:=hl.digit;have oe:0<dv vs:=by omega
  have Co:=ve (dv x) oe;obtain ⟨t,e1,Vp,KL,ht3⟩:=aiC (P:=P) (L:=L) lH hw hl (pre:=pre) (post:=post) (qs:=qs) (f:=f) (M:=M) (by omega) (by omega);rw [<-jN,lp] at e1;have hbu:dv us=dv pre+1000000000^j*dv x:=by
   have:=Im us j (by omega)
   rw [GK,<-fB] at this;exact this
  have akb:∀y,dv (pre++y++post)=dv pre+1000000000^j*dv y:=fun y=>by
   rw [y7,iT,iT,hp0,wz,xH,lp]
  have my:=Z4 (b:=0) hbu bi;have Wh:below 3 w:=qg hw.pu;have aY:=za (l:=qs) (i:=j) (x:=((dv x/dv vs:Nat):Int)) (by omega);have Wl:dg (qs.set j ((dv x/dv vs:Nat):Int)):=Et gq ⟨ub _,vj.2 aka⟩;rw [hz j (by omega),Int.sub_zero,nI gq,nI Wl] at aY;have aY:dv (qs.set j ((dv x/dv vs:Nat):Int))=dv qs+1000000000^j*(dv x/dv vs):=by
   have zk:((1000000000^j*(dv x/dv vs):Nat):Int)=(1000000000:Int)^j*((dv x/dv vs:Nat):Int):=by rw [xC];simp
   rw [<-zk] at aY;exact ta (by rw [uW,uW,aY,vJ])
  have fin:∀(s':St) (x':List Int),bA [8,9,10,11,12,13] s'=⟨[(8,.au 0 0 1),(9,w),(10,ab n),(11,.au 1 0 M),(12,.au 2 0 m),(13,ab ((j:Int)-1))],H3 (qs.set j ((dv x/dv vs:Nat):Int)) (pre++x'++post) f,3,0⟩->x'.length=n+1->dg x'->sv x'=((dv x%dv vs:Nat):Int)->
    ∃(j':Nat) (us qs:List Int),bA [8,9,10,11,12,13] s'=⟨[(8,.au 0 0 1),(9,w),(10,ab n),(11,.au 1 0 M),(12,.au 2 0 m),(13,ab ((j':Int)-1))],H3 qs us f,3,0⟩/\j'=j/\j'<=m/\us.length=M/\qs.length=m/\dg us/\dg qs/\(∀i,i<j'->qs.getD i 0=0)/\dv us+dv qs*dv vs=U0/\dv (us.drop j')<dv vs:=fun s' x' hc lx' Wm Wn=>by
   have UH:dv x'=dv x%dv vs:=by rw [nI Wm] at Wn;exact ta Wn
   refine ⟨j,_,_,hc,rfl,by omega,by rw [jO,lx'];omega,by simp [lq],eU.2 ⟨eU.2 ⟨aj9,Wm⟩,gpo⟩,Wl,fun i hi=>by rw [Ro (by omega)];exact hz i (by omega),?_,?_⟩
   ·rw [akb,UH,aY];exact my
   ·rw [y7,List.drop_left' lp,iT,hp0,wz,xH,UH];exact Co
  have UI:=fun (z:Int) (hp:Hp) (ct:Nat)=>pW (hp:=hp) (ct:=ct) (id:=2) (v:=z) (ex:=true) (l:=qs) (o:=j) (by omega)
  have svx:=nI gx;have Wo:=nI gv;simp only [H3] at e1;simp only [go_sem,ya,Bm,H3,show ((j+1:Nat):Int)-1=(j:Int) by omega,show (0:Int)<=(j:Int) by omega,aiv,e1];generalize GH:D P L (.loop [8,9,10,11,12,13,14,15,16] s6) _=qq;obtain ⟨ex,s,rfl,tm,bo,y,rfl,rfl,t8,t9,t10,t11,t12,t13,t14,t15,ly,gy,Lk,hv⟩:=cW GH (aeo (P:=P) (L:=L) (x:=x) (pre:=pre) (post:=post) (qs:=qs) (f:=f) (m:=m) (M:=M) hw lv Wj (by omega) gv (t:=t) (by omega) n) ⟨0,0,x,by
   rw [jN,lp]
   simp only [go_sem,ya,yc,aM,a6 hw.pu,bc _ hw.pu]<;>rfl,by omega,lx,gx,by omega,by simp [sv]⟩
  rw [lp] at t13;have hyn:=fe gy n;have Ll:=mv (l:=pre++y++post) (o:=pre.length+n) (by rw [jO];omega);rw [oN (by omega),lp] at Ll;obtain ⟨z,Lm⟩:∃z,z=y.getD n 0-bo:=⟨_,rfl⟩;have zp:=fun (hp:Hp) (ct:Nat)=>pW (hp:=hp) (ct:=ct) (id:=1) (v:=z) (ex:=false) (l:=pre++y++post) (o:=j+n) (by rw [jO];omega)
  have rK:=Ez (pre:=pre) (x:=y) (post:=post) (i:=n) z (by omega);rw [lp] at rK;rw [rK] at zp;have pH:=za (l:=y) (i:=n) (x:=z) (by omega);have Fa:=aet hv pH Lm;have GL:(y.set n z).length=n+1:=by simp [ly]
  have Ln:dg ((y.set n z).take n):=by
   have:(y.set n z).take n=y.take n:=by rw [uo,uk (by simp;omega)]
   rw [this];exact qC gy n
  rw [svx,Wo] at Fa;obtain ⟨s0,s1⟩:=aer oe GL Ln Fa KL ht3;have eg:(y.set n z).getD n 0=z:=Z7 (by omega);rw [eg] at s0 s1;have Lo:=mv (l:=pre++y.set n z++post) (o:=pre.length+n) (by rw [jO];omega);rw [oN (by omega),lp,eg] at Lo;generalize y.set n z=y1 at*
  have hpn:((10^9:Int))=1000000000:=by decide
  by_cases dU:z<0
  ·obtain ⟨f1,f2⟩:=s1 dU
   simp only [go_sem,ya,yc,yv,aM,a6 hw.pu,bc _ hw.pu,t8,t9,t10,t11,t12,t13,t14,t15,show (j:Int)+(n:Int)=((j+n:Nat):Int) from rfl,wrapN (n:=j+n) (by omega),fX 1 0 (show j+n<M by omega),yp,Ll,<-Lm,wrap64 (n:=z) (by omega) (by omega),zp,Lo,dU];generalize akc:D P L (.loop [8,9,10,11,12,13,14,19,20] Bl) _=qq2;obtain ⟨ex,s,rfl,mH,c,y2,rfl,rfl,t8,t9,t10,t11,t12,t13,t14,t19,ly2,gy2,S5,hc,cT⟩:=cW akc (aeq (P:=P) (L:=L) (y0:=y1) (pre:=pre) (post:=post) (qs:=qs) (f:=f) (m:=m) (M:=M) (t:=(t:Int)-1) (top:=z) hw lv Wj (by omega) gv n) ⟨0,0,y1,by
    rw [lp,wrap64 (n:=(t:Int)-1) (by omega) (by omega)]
    simp only [go_sem,ya,yc,aM,a6 hw.pu,bc _ hw.pu]<;>rfl,by omega,GL,Ln,eg,by omega,by simp [sv]⟩
   rw [lp] at t13;have UJ:=mv (l:=pre++y2++post) (o:=pre.length+n) (by rw [jO];omega);rw [oN (by omega),lp,S5] at UJ;have UK:=fun (hp:Hp) (ct:Nat)=>pW (hp:=hp) (ct:=ct) (id:=1) (v:=z+c) (ex:=false) (l:=pre++y2++post) (o:=j+n) (by rw [jO];omega)
   have S6:=Ez (pre:=pre) (x:=y2) (post:=post) (i:=n) (z+c) (by omega);rw [lp] at S6;rw [S6] at UK;have zR:=za (l:=y2) (i:=n) (x:=z+c) (by omega);rw [S5,show z+c-z=c by omega,cT,Wo,f2] at zR;have Wp:(y2.set n (z+c)).length=n+1:=by simp [ly2]
   have gy3:dg ((y2.set n (z+c)).take n):=by
    have:(y2.set n (z+c)).take n=y2.take n:=by rw [uo,uk (by simp;omega)]
    rw [this];exact gy2
   have Lq:((dv x%dv vs:Nat):Int)<1000000000^n:=by
    have zk:((1000000000^n:Nat):Int)=(1000000000:Int)^n:=by simp
    rw [<-zk];omega
   obtain ⟨g1,g2,g3⟩:=OH Wp gy3 (by rw [zR];omega) (by rw [zR];exact Lq)
   generalize y2.set n (z+c)=y3 at*
   have ft:(t:Int)-1=((dv x/dv vs:Nat):Int):=by rw [f1];omega
   simp only [go_sem,ya,yc,yv,aM,a6 hw.pu,bc _ hw.pu,t8,t9,t10,t11,t12,t13,t14,t19,show (j:Int)+(n:Int)=((j+n:Nat):Int) from rfl,wrapN (n:=j+n) (by omega),fX 1 0 (show j+n<M by omega),yp,UJ,wrap64 (n:=z+c) (by omega) (by omega),UK,fX 2 0 (show j<m by omega),UI];rw [ft];refine ⟨_,j,rfl,by omega,fin _ y3 ?_ Wp g2 zR⟩;rw [wrap64 (by omega) (by omega)];simp only [go_sem,ya,yc,aM,a6 hw.pu,bc _ hw.pu]<;>rfl
  ·obtain ⟨f1,f2⟩:=s0 dU;have Lq:((dv x%dv vs:Nat):Int)<1000000000^n:=by
    have zk:((1000000000^n:Nat):Int)=(1000000000:Int)^n:=by simp
    rw [<-zk];omega
   obtain ⟨g1,g2,g3⟩:=OH GL Ln (by rw [f2];omega) (by rw [f2];exact Lq)
   simp only [go_sem,ya,yc,yv,aM,a6 hw.pu,bc _ hw.pu,t8,t9,t10,t11,t12,t13,t14,t15,show (j:Int)+(n:Int)=((j+n:Nat):Int) from rfl,wrapN (n:=j+n) (by omega),fX 1 0 (show j+n<M by omega),yp,Ll,<-Lm,wrap64 (n:=z) (by omega) (by omega),zp,Lo,dU,fX 2 0 (show j<m by omega),UI];rw [f1];refine ⟨_,j,rfl,by omega,fin _ y1 ?_ GL g2 f2⟩;rw [wrap64 (by omega) (by omega)];simp only [go_sem,ya,yc,aM,a6 hw.pu,bc _ hw.pu]<;>rfl
end
end
section
open Go (IntKind)
section
variable {P:aF} {L:Lib}
def ag2 (h:Has P L 292 nP) {n:Nat} (hn:n<1000000000):aj P L 292 [ab n,ab 9] (.str (gm 9 n)):=by
 have key:=dt (P:=P) (L:=L) (live:=[0,1,5]) (a:=jL)
  (I:=fun k st=>∃(m:Nat) (s:List Nat),st=⟨[(0,ab m),(1,ab 9),(5,.str s)],[],0,0⟩/\s.length+k=9/\m<10^k/\gm 9 n=gm k m++s)
  (Q:=fun ex st=>∃tm ct,st=⟨tm,[],ct,0⟩/\ex= .exit 0/\ah tm 5= .str (gm 9 n)) ?_
 ·unfold aj;rw [aR h];simp only [go_sem,nP];generalize hq:D P L (.loop [0,1,5] jL) _=q;obtain ⟨ex,st,rfl,tm,ct,rfl,rfl,h2⟩:=cW hq (key 9) ⟨n,[],by simp only [go_sem,ya,aM]<;>rfl,rfl,by omega,by simp⟩
  simp only [go_sem,aM,h2]
 ·rintro k st ⟨m,s,rfl,hk,hm,hs⟩
  cases k with
  | zero=>
   right
   have Lr:m=0:=by simpa using hm
   subst Lr;simp only [go_sem,ya,jL,show ¬(0:Int)<((0:Nat):Int) by omega,show ¬((s.length:Nat):Int)<9 by omega];refine ⟨_,_,rfl,by simp,_,_,rfl,rfl,?_⟩;rw [hs];rfl
  | succ k=>
   left
   have hr:((m:Int)).tmod 10=((m%10:Nat):Int):=by rw [xp (by omega)];rfl
   have hq:((m:Int)).tdiv 10=((m/10:Nat):Int):=by rw [xB (by omega)];rfl
   have hd:=MT (r:=m%10) (by omega);have CD:m<10000000000:=yU hm (by simpa using xL (show 0<10 by decide) (show k+1<=10 by omega));have fin:∃s',D P L jL ⟨[(0,ab m),(1,ab 9),(5,.str s)],[],0,0⟩=some (.normal,s')/\bA [0,1,5] s'=⟨[(0,ab (m/10:Nat)),(1,ab 9),(5,.str ([48+m%10]++s))],[],0,0⟩:=by
    by_cases hc:(0:Int)<m
    ·simp only [go_sem,ya,yc,jL,hc,eJ _ _ _ (show (10:Int)≠0 by decide),dX _ _ _ (show (10:Int)≠0 by decide),hr,hq,wrapN (n:=m%10+1) (by omega),wrap64 (n:=((m/10:Nat):Int)) (by omega) (by omega),dM,dH,show ((m%10:Nat):Int)+1=((m%10+1:Nat):Int) from rfl,hd,fJ (a:=[48+m%10]) (b:=s) (by simp;omega)];exact ⟨_,rfl,by simp only [go_sem,ya,aM]⟩
    ·simp only [go_sem,ya,yc,jL,hc,show ((s.length:Nat):Int)<9 by omega,eJ _ _ _ (show (10:Int)≠0 by decide),dX _ _ _ (show (10:Int)≠0 by decide),hr,hq,wrapN (n:=m%10+1) (by omega),wrap64 (n:=((m/10:Nat):Int)) (by omega) (by omega),dM,dH,show ((m%10:Nat):Int)+1=((m%10+1:Nat):Int) from rfl,hd,fJ (a:=[48+m%10]) (b:=s) (by simp;omega)];exact ⟨_,rfl,by simp only [go_sem,ya,aM]⟩
   obtain ⟨s',f1,f2⟩:=fin;exact ⟨s',k,f1,by omega,m/10,_,f2,by simp;omega,by rw [xq] at hm;omega,by rw [hs];simp [gm]⟩
end
end
end VE
