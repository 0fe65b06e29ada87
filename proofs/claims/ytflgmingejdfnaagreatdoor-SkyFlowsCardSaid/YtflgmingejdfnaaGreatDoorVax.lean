import Derived.Test.YtflgmingejdfnaaGreatDoorVat
import Derived.Test.YtflgmingejdfnaaGreatDoorVas
set_option linter.all false
set_option maxRecDepth 100000
open Bool renaming false_eq_true→yC,not_false→yI
open Int renaming mul_add→ybM,natCast_mul→vh,neg_neg→ybw,ofNat_lt→uB,pow_succ→yaQ,tdiv_eq_ediv_of_nonneg→xK,tmod_eq_emod_of_nonneg→xm,toNat_natCast→wC,toNat_of_nonneg→uO
open List renaming drop→xv,drop_eq_getElem_cons→yO,drop_eq_nil_of_le→xj,eq_nil_of_length_eq_zero→yN,getD_eq_getElem?_getD→xM,getElem?_eq_getElem→wh,length_cons→yv,length_map→xx,length_nil→yF,length_take→yT,map_append→xq,replicate→yA,take_length→wz,take_of_length_le→yL
open Nat renaming add_mul→wG,add_zero→yX,div_add_mod→wB,div_lt_iff_lt_mul→xZ,eq_zero_or_pos→xr,le_of_lt_succ→uW,le_refl→yD,le_trans→xi,lt_of_lt_of_le→yH,min_eq_left→wE,mod_lt→xC,mul_add→xD,mul_assoc→xk,mul_comm→xN,mul_le_mul→vd,mul_le_mul_left→yS,mul_one→yi,mul_zero→xJ,pow_add→wP,pow_le_pow_right→xn,pow_succ→xg,reduceAdd→yb,reduceEqDiff→ya,reduceLT→yy,reduceLeDiff→yg,reduceMul→xR,zero_add→yd
namespace VE
section
open Go (IntKind)
def akW (p s:Nat):p*(s%1000000000)+p*1000000000*(s/1000000000)=p*s:=by
 rw [xk,<-xD,Nat.mod_add_div]
def HB {l:List Int} {i:Nat} (h:l.length<=i):l.getD i 0=0:=by simp_all
def ane {a b out:List Int} {i c:Nat} {x y:Int} (hx:x=a.getD i 0) (hy:y=b.getD i 0) (h1:0<=x) (h2:0<=y) (hl:out.length=i) (hv:dv out+1000000000^i*c=dv (a.take i)+dv (b.take i)):
  dv (out++[(((x.toNat+y.toNat+c)%1000000000:Nat):Int)])+1000000000^(i+1)*((x.toNat+y.toNat+c)/1000000000)=dv (a.take (i+1))+dv (b.take (i+1)):=by
 rw [oz,oz,mJ,hl,<-hx,<-hy];simp only [dv,wC,xJ,yX,xg]
 have:=akW (1000000000^i) (x.toNat+y.toNat+c)
 grind
section
variable {P:aK} {L:Lib}
def arY (nc:Has P L 302 rD) {v w:AV} {a b:List Int} (hv:bq v a) (hw:bq w b) (ha:dg a) (hb:dg b) {N:Nat} (la:a.length<=N) (lb:b.length<=N) (lN:N<=20000000000):
  ∀k s,(∃(i c:Nat) (out:List Int),2*(N-i)+c=k/\out.length=i/\c<=1/\dg out/\dv out+1000000000^i*c=dv (a.take i)+dv (b.take i)/\i<=N+1/\(i<=N\/c=0)/\
    ((i=0/\bH [0,1,5,6,7] s=⟨[(0,v),(1,w),(5,.ab),(6,aa c),(7,aa i)],[],0,0⟩)\/
    (0<i/\bH [0,1,5,6,7] s=⟨[(0,v),(1,w),(5,.ak 0 0 i),(6,aa c),(7,aa i)],[(0,.cells true true false 1 (out.map aa))],1,0⟩)))->
   ∃ex s',D P L (.loop [0,1,5,6,7] oG) s=some (ex,s')/\∃tm out,ex= .exit 0/\dg out/\dv out=dv a+dv b/\out.length<=N+1/\((out=[]/\af tm 5= .ab/\s'=⟨tm,[],0,0⟩)\/(0<out.length/\af tm 5= .ak 0 0 out.length/\s'=⟨tm,[(0,.cells true true false 1 (out.map aa))],1,0⟩)):=by
 refine cC (I:=fun k s=>∃(i c:Nat) (out:List Int),2*(N-i)+c=k/\out.length=i/\c<=1/\dg out/\dv out+1000000000^i*c=dv (a.take i)+dv (b.take i)/\i<=N+1/\(i<=N\/c=0)/\
    ((i=0/\s=⟨[(0,v),(1,w),(5,.ab),(6,aa c),(7,aa i)],[],0,0⟩)\/
    (0<i/\s=⟨[(0,v),(1,w),(5,.ak 0 0 i),(6,aa c),(7,aa i)],[(0,.cells true true false 1 (out.map aa))],1,0⟩)))
  (Q:=fun ex s'=>∃tm out,ex= .exit 0/\dg out/\dv out=dv a+dv b/\out.length<=N+1/\((out=[]/\af tm 5= .ab/\s'=⟨tm,[],0,0⟩)\/(0<out.length/\af tm 5= .ak 0 0 out.length/\s'=⟨tm,[(0,.cells true true false 1 (out.map aa))],1,0⟩))) ?_
 rintro k s ⟨i,c,out,hk,hlen,hc,li,aT,hi,Fc,hs⟩;have e1:=Tc nc hv i;have e2:=Tc nc hw i;unfold ae at e1 e2;have ga:=gW ha i;have gb:=gW hb i;by_cases so:i<a.length\/i<b.length\/0<c
 ·left
  obtain ⟨x,hx⟩:∃x,x=a.getD i 0:=⟨_,rfl⟩;obtain ⟨y,hy⟩:∃y,y=b.getD i 0:=⟨_,rfl⟩;rw [<-hx] at e1 ga;rw [<-hy] at e2 gb;have kK:=ane (c:=c) hx hy ga.1 gb.1 hlen aT;obtain ⟨s0,iy⟩:∃s0,s0=x.toNat+y.toNat+c:=⟨_,rfl⟩;rw [<-iy] at kK;have Bq:x+y+(c:Int)=(s0:Int):=by omega
  have hs9:s0<2000000000:=by omega
  have hr:((s0:Nat):Int).tmod 1000000000=((s0%1000000000:Nat):Int):=by rw [xm (by omega)];rfl
  have hq:((s0:Nat):Int).tdiv 1000000000=((s0/1000000000:Nat):Int):=by rw [xK (by omega)];rfl
  have nl:s0/1000000000<=1:=by omega
  have att:2*(N-(i+1))+s0/1000000000<k:=by
   by_cases hm:i<N
   ·omega
   ·have:c=1:=by omega
    have Aj:x=0:=by rw [hx];exact HB (by omega)
    have iD:y=0:=by rw [hy];exact HB (by omega)
    subst Aj;subst iD
    have:s0=1:=by rw [iy,this];rfl
    subst this;omega
  have E6:dg (out++[((s0%1000000000:Nat):Int)]):=gV.2 ⟨li,jO.2 (by omega)⟩;have Sm:(out++[((s0%1000000000:Nat):Int)]).length=i+1:=by simp [hlen]
  have avk:i+1<=N\/s0/1000000000=0:=by
   by_cases hm:i<N
   ·exact .inl hm
   ·right
    have:c=1:=by omega
    have Aj:x=0:=by rw [hx];exact HB (by omega)
    have iD:y=0:=by rw [hy];exact HB (by omega)
    subst Aj;subst iD
    have:s0=1:=by rw [iy,this];rfl
    subst this;rfl
  have fin:∃s',D P L oG s=some (.normal,s')/\bH [0,1,5,6,7] s'=⟨[(0,v),(1,w),(5,.ak 0 0 (i+1)),(6,aa (s0/1000000000:Nat)),(7,aa (i+1:Nat))],[(0,.cells true true false 1 ((out++[((s0%1000000000:Nat):Int)]).map aa))],1,0⟩:=by
   have three:((i:Int)<a.length)\/(¬(i:Int)<a.length/\(i:Int)<b.length)\/(¬(i:Int)<a.length/\¬(i:Int)<b.length/\(0:Int)<c):=by omega
   rcases three with t1 | ⟨t1,t2⟩ | ⟨t1,t2,t3⟩
   ·rcases hs with ⟨h0,rfl⟩ | ⟨h0,rfl⟩
    ·subst h0;have mB:out=[]:=yN hlen;subst mB
     simp only [go_sem,ya,yb,xR,yy,yg,yi,oG,hv.len,hv.ai,hw.ai,t1,e1,e2,wrap64 (n:=x+y) (by omega) (by omega),Bq,wrap64 (n:=(s0:Int)) (by omega) (by omega),eD _ _ _ (show (1000000000:Int)≠0 by decide),fq _ _ _ (show (1000000000:Int)≠0 by decide),hr,hq,wrap64 (n:=((s0/1000000000:Nat):Int)) (by omega) (by omega),lY];refine ⟨_,rfl,?_⟩;rw [wrap64 (by omega) (by omega)];simp only [go_sem,ya,yb,aD,aM hv.pu,aQ _ hv.pu,aM hw.pu,aQ _ hw.pu]<;>rfl
    ·simp only [go_sem,ya,yb,yg,yi,oG,hv.len,hv.ai,hw.ai,t1,e1,e2,wrap64 (n:=x+y) (by omega) (by omega),Bq,wrap64 (n:=(s0:Int)) (by omega) (by omega),eD _ _ _ (show (1000000000:Int)≠0 by decide),hr]
     rw [lk (ex:=false) (pu:=true) (cs:=out.map aa) (by simp only [go_sem,ya]) (by rw [xx,hlen,yi]) (by omega) (by omega) (by decide) (by simp only [go_sem])]
     simp only [go_sem,ya,yb,fq _ _ _ (show (1000000000:Int)≠0 by decide),hq,wrap64 (n:=((s0/1000000000:Nat):Int)) (by omega) (by omega)];refine ⟨_,rfl,?_⟩;rw [wrap64 (by omega) (by omega),xq];simp only [go_sem,ya,yb,aD,aM hv.pu,aQ _ hv.pu,aM hw.pu,aQ _ hw.pu]<;>rfl
   ·rcases hs with ⟨h0,rfl⟩ | ⟨h0,rfl⟩
    ·subst h0;have mB:out=[]:=yN hlen;subst mB
     simp only [go_sem,ya,yb,xR,yy,yg,yi,oG,hv.len,hv.ai,hw.len,hw.ai,t1,t2,e1,e2,wrap64 (n:=x+y) (by omega) (by omega),Bq,wrap64 (n:=(s0:Int)) (by omega) (by omega),eD _ _ _ (show (1000000000:Int)≠0 by decide),fq _ _ _ (show (1000000000:Int)≠0 by decide),hr,hq,wrap64 (n:=((s0/1000000000:Nat):Int)) (by omega) (by omega),lY];refine ⟨_,rfl,?_⟩;rw [wrap64 (by omega) (by omega)];simp only [go_sem,ya,yb,aD,aM hv.pu,aQ _ hv.pu,aM hw.pu,aQ _ hw.pu]<;>rfl
    ·simp only [go_sem,ya,yb,yg,yi,oG,hv.len,hv.ai,hw.len,hw.ai,t1,t2,e1,e2,wrap64 (n:=x+y) (by omega) (by omega),Bq,wrap64 (n:=(s0:Int)) (by omega) (by omega),eD _ _ _ (show (1000000000:Int)≠0 by decide),hr]
     rw [lk (ex:=false) (pu:=true) (cs:=out.map aa) (by simp only [go_sem,ya]) (by rw [xx,hlen,yi]) (by omega) (by omega) (by decide) (by simp only [go_sem])]
     simp only [go_sem,ya,yb,fq _ _ _ (show (1000000000:Int)≠0 by decide),hq,wrap64 (n:=((s0/1000000000:Nat):Int)) (by omega) (by omega)];refine ⟨_,rfl,?_⟩;rw [wrap64 (by omega) (by omega),xq];simp only [go_sem,ya,yb,aD,aM hv.pu,aQ _ hv.pu,aM hw.pu,aQ _ hw.pu]<;>rfl
   ·rcases hs with ⟨h0,rfl⟩ | ⟨h0,rfl⟩
    ·subst h0;have mB:out=[]:=yN hlen;subst mB
     simp only [go_sem,ya,yb,xR,yy,yg,yi,oG,hv.len,hv.ai,hw.len,hw.ai,t1,t2,t3,e1,e2,wrap64 (n:=x+y) (by omega) (by omega),Bq,wrap64 (n:=(s0:Int)) (by omega) (by omega),eD _ _ _ (show (1000000000:Int)≠0 by decide),fq _ _ _ (show (1000000000:Int)≠0 by decide),hr,hq,wrap64 (n:=((s0/1000000000:Nat):Int)) (by omega) (by omega),lY];refine ⟨_,rfl,?_⟩;rw [wrap64 (by omega) (by omega)];simp only [go_sem,ya,yb,aD,aM hv.pu,aQ _ hv.pu,aM hw.pu,aQ _ hw.pu]<;>rfl
    ·simp only [go_sem,ya,yb,yg,yi,oG,hv.len,hv.ai,hw.len,hw.ai,t1,t2,t3,e1,e2,wrap64 (n:=x+y) (by omega) (by omega),Bq,wrap64 (n:=(s0:Int)) (by omega) (by omega),eD _ _ _ (show (1000000000:Int)≠0 by decide),hr]
     rw [lk (ex:=false) (pu:=true) (cs:=out.map aa) (by simp only [go_sem,ya]) (by rw [xx,hlen,yi]) (by omega) (by omega) (by decide) (by simp only [go_sem])]
     simp only [go_sem,ya,yb,fq _ _ _ (show (1000000000:Int)≠0 by decide),hq,wrap64 (n:=((s0/1000000000:Nat):Int)) (by omega) (by omega)];refine ⟨_,rfl,?_⟩;rw [wrap64 (by omega) (by omega),xq];simp only [go_sem,ya,yb,aD,aM hv.pu,aQ _ hv.pu,aM hw.pu,aQ _ hw.pu]<;>rfl
  obtain ⟨s',f1,f2⟩:=fin;exact ⟨s',_,f1,att,i+1,s0/1000000000,_,rfl,Sm,nl,E6,kK,by omega,avk,.inr ⟨by omega,f2⟩⟩
 ·right
  have kZ:c=0:=by omega
  subst kZ;rw [xJ,yX,yL (by omega),yL (by omega)] at aT;rcases hs with ⟨h0,rfl⟩ | ⟨h0,rfl⟩
  ·simp only [go_sem,ya,oG,hv.len,hw.len,show ¬(i:Int)<a.length by omega,show ¬(i:Int)<b.length by omega,show ¬(0:Int)<((0:Nat):Int) by omega];exact ⟨_,_,rfl,by simp,_,out,rfl,li,aT,by omega,.inl ⟨yN (by omega),by simp only [go_sem,ya],rfl⟩⟩
  ·simp only [go_sem,ya,oG,hv.len,hw.len,show ¬(i:Int)<a.length by omega,show ¬(i:Int)<b.length by omega,show ¬(0:Int)<((0:Nat):Int) by omega];exact ⟨_,_,rfl,by simp,_,out,rfl,li,aT,by omega,.inr ⟨by omega,by rw [hlen];simp only [go_sem,ya],rfl⟩⟩
def avl (h:Has P L 295 I0) (nc:Has P L 302 rD) {v w:AV} {a b:List Int} (hv:bq v a) (hw:bq w b) (ha:dg a) (hb:dg b) (la:a.length<=20000000000) (lb:b.length<=20000000000):
  ∃r out,ae P L 295 [v,w] r/\bq (shut r) out/\dg out/\dv out=dv a+dv b/\out.length<=max a.length b.length+1:=by
 have iL:∃out,ae P L 295 [v,w] (if out=[] then .ab else .cG false 1 out.length (out.map aa))/\dg out/\dv out=dv a+dv b/\out.length<=max a.length b.length+1:=by
  unfold ae;rw [av h];simp only [go_sem,I0];generalize hq:D P L (.loop [0,1,5,6,7] oG) _=q;obtain ⟨ex,s,rfl,tm,out,rfl,hd,aT,hl,hs⟩:=cd hq (arY (P:=P) (L:=L) nc hv hw ha hb (N:=max a.length b.length) (by omega) (by omega) (by omega) (2*(max a.length b.length))) ⟨0,0,[],by omega,rfl,by omega,rfl,by simp [dv],by omega,.inr rfl,.inl ⟨rfl,by simp only [go_sem,ya,aD,aM hv.pu,aQ _ hv.pu,aM hw.pu,aQ _ hw.pu]<;>rfl⟩⟩
  refine ⟨out,?_,hd,aT,hl⟩;rcases hs with ⟨h0,h5,rfl⟩ | ⟨h0,h5,rfl⟩
  ·rw [yJ h0];simp only [go_sem,aD,h5]
  ·rw [yz (by intro e;subst e;simp at h0)];simp only [go_sem,yb,aD,h5];exact PP (Hx _ _ _) (by simp) (by decide)
 obtain ⟨out,g1,g2,g3,g4⟩:=iL;refine ⟨_,out,g1,?_,g2,g3,g4⟩
 split
 ·rename_i e;subst e;exact qV
 ·exact fN false out
end
end
section
open Go (IntKind)
section
variable {P:aK} {L:Lib}
def TG (h:Has P L 296 rC) {v w:AV} {a b:List Int} (hv:bq v a) (hw:bq w b) (ha:dg a) (hb:dg b) (na:nz a) (nb:nz b) (la:a.length<=20000000000) (lb:b.length<=20000000000):
  ae P L 296 [v,w] (aa (dX (dv a) (dv b))):=by
 unfold ae;rw [av h];by_cases hlen:a.length=b.length
 ·have key:=cC (P:=P) (L:=L) (live:=[0,1,5]) (a:=Cs)
   (I:=fun k st=>∃j:Nat,st=⟨[(0,v),(1,w),(5,aa ((j:Int)-1))],[],0,0⟩/\j<=a.length/\j=k/\a.drop j=b.drop j)
   (Q:=fun ex st=>∃tm ct,st=⟨tm,[],ct,0⟩/\((ex= .ret/\af tm 4=aa (dX (dv a) (dv b)))\/(ex= .exit 0/\a=b))) ?_
  ·simp only [go_sem,ya,rC,hv.len,hw.len,show (a.length:Int)=b.length by omega];generalize hq:D P L (.loop [0,1,5] Cs) _=q;obtain ⟨ex,st,rfl,tm,ct,rfl,h2⟩:=cd hq (key a.length) ⟨a.length,by
    rw [wrap64 (by omega) (by omega)];rw [hlen]
    simp only [go_sem,ya,aD,aM hv.pu,aQ _ hv.pu,aM hw.pu,aQ _ hw.pu]<;>rfl,yD _,rfl,by rw [xj (yD _),xj (by omega)]⟩
   rcases h2 with ⟨rfl,h2⟩ | ⟨rfl,h2⟩
   ·simp only [go_sem,h2]
   ·simp only [go_sem,aD];subst h2;simp [dX]
  ·rintro k st ⟨j,rfl,hj,rfl,he⟩
   cases j with
   | zero=>
    right
    simp only [go_sem,ya,Cs,show ¬(0:Int)<=((0:Nat):Int)-1 by omega];exact ⟨_,_,rfl,by simp,_,_,rfl,.inr ⟨rfl,by simpa using he⟩⟩
   | succ i=>
    have h1:i<a.length:=by omega
    have h2:i<b.length:=by omega
    have Fi:=aa3 ha hb h1 h2 he;have bi:=aa3 hb ha h2 h1 he.symm;by_cases c1:a[i]<b[i]
    ·right
     simp only [go_sem,ya,Cs,show ((i+1:Nat):Int)-1=(i:Int) by omega,show (0:Int)<=(i:Int) by omega,hv.bj h1,hw.bj h2,c1];refine ⟨_,_,rfl,by simp,_,_,rfl,.inl ⟨rfl,?_⟩⟩;simp only [go_sem];unfold dX;rw [yJ (Fi c1)]
    ·by_cases c2:b[i]<a[i]
     ·right
      simp only [go_sem,ya,Cs,show ((i+1:Nat):Int)-1=(i:Int) by omega,show (0:Int)<=(i:Int) by omega,hv.bj h1,hw.bj h2,c1,c2];refine ⟨_,_,rfl,by simp,_,_,rfl,.inl ⟨rfl,?_⟩⟩;simp only [go_sem];unfold dX;rw [yz (by omega),yJ (by omega)]
     ·left
      simp only [go_sem,ya,Cs,show ((i+1:Nat):Int)-1=(i:Int) by omega,show (0:Int)<=(i:Int) by omega,hv.bj h1,hw.bj h2,c1,c2];refine ⟨_,i,rfl,by omega,i,?_,by omega,rfl,?_⟩
      ·rw [wrap64 (by omega) (by omega)];simp only [go_sem,ya,aD,aM hv.pu,aQ _ hv.pu,aM hw.pu,aQ _ hw.pu]<;>rfl
      ·rw [yO h1,yO h2,he,show a[i]=b[i] by omega]
 ·by_cases c1:a.length<b.length
  ·have:=RC ha nb hb c1
   simp only [go_sem,ya,rC,hv.len,hw.len,show ¬(a.length:Int)=b.length by omega,show (a.length:Int)<b.length by omega];unfold dX;rw [yJ this]
  ·have:=RC hb na ha (show b.length<a.length by omega)
   simp only [go_sem,ya,rC,hv.len,hw.len,show ¬(a.length:Int)=b.length by omega,show ¬(a.length:Int)<b.length by omega];unfold dX;rw [yz (by omega),yJ this]
def anf {a b out:List Int} {i c:Nat} {x y z:Int} {c':Nat} (hx:x=a.getD i 0) (hy:y=b.getD i 0) (h1:0<=x) (h2:0<=y) (h3:0<=z) (hz:z=x-y-c+1000000000*c') (hl:out.length=i) (hv:dv out+dv (b.take i)=dv (a.take i)+1000000000^i*c):
  dv (out++[z])+dv (b.take (i+1))=dv (a.take (i+1))+1000000000^(i+1)*c':=by
 rw [oz,oz,mJ,hl,<-hx,<-hy];simp only [dv,xJ,yX,xg];have e:z.toNat+y.toNat+c=x.toNat+1000000000*c':=by omega
 grind
end
end
section
open Go (IntKind)
section
variable {P:aK} {L:Lib}
def arZ (nc:Has P L 302 rD) {v w:AV} {a b:List Int} (hv:bq v a) (hw:bq w b) (ha:dg a) (hb:dg b) (la:a.length<=20000000000) (hle:dv b<=dv a) (Dv:b.length<=a.length):
  ∀k s,(∃(i c:Nat) (out:List Int),i+k=a.length/\out.length=i/\c<=1/\dg out/\dv out+dv (b.take i)=dv (a.take i)+1000000000^i*c/\
    ((i=0/\bH [0,1,5,6,7] s=⟨[(0,v),(1,w),(5,.ab),(6,aa c),(7,aa i)],[],0,0⟩)\/
    (0<i/\bH [0,1,5,6,7] s=⟨[(0,v),(1,w),(5,.ak 0 0 i),(6,aa c),(7,aa i)],[(0,.cells true true false 1 (out.map aa))],1,0⟩)))->
   ∃ex s',D P L (.loop [0,1,5,6,7] rb) s=some (ex,s')/\∃tm out,ex= .exit 0/\dg out/\dv out+dv b=dv a/\out.length<=20000000000/\((out=[]/\af tm 5= .ab/\s'=⟨tm,[],0,0⟩)\/(0<out.length/\af tm 5= .ak 0 0 out.length/\s'=⟨tm,[(0,.cells true true false 1 (out.map aa))],1,0⟩)):=by
 refine cC (I:=fun k s=>∃(i c:Nat) (out:List Int),i+k=a.length/\out.length=i/\c<=1/\dg out/\dv out+dv (b.take i)=dv (a.take i)+1000000000^i*c/\
    ((i=0/\s=⟨[(0,v),(1,w),(5,.ab),(6,aa c),(7,aa i)],[],0,0⟩)\/
    (0<i/\s=⟨[(0,v),(1,w),(5,.ak 0 0 i),(6,aa c),(7,aa i)],[(0,.cells true true false 1 (out.map aa))],1,0⟩)))
  (Q:=fun ex s'=>∃tm out,ex= .exit 0/\dg out/\dv out+dv b=dv a/\out.length<=20000000000/\((out=[]/\af tm 5= .ab/\s'=⟨tm,[],0,0⟩)\/(0<out.length/\af tm 5= .ak 0 0 out.length/\s'=⟨tm,[(0,.cells true true false 1 (out.map aa))],1,0⟩))) ?_
 rintro k s ⟨i,c,out,hk,hlen,hc,li,aT,hs⟩;have e2:=Tc nc hw i;unfold ae at e2;have ga:=gW ha i;have gb:=gW hb i;by_cases so:i<a.length
 ·left
  obtain ⟨x,hx⟩:∃x,x=a.getD i 0:=⟨_,rfl⟩;obtain ⟨y,hy⟩:∃y,y=b.getD i 0:=⟨_,rfl⟩;have Dx:a[i]=x:=by rw [hx];simp [xM,wh so]
  have e1:=hv.bj so;rw [Dx] at e1;rw [<-hx] at ga;rw [<-hy] at e2 gb;obtain ⟨z,c',hz,nl,lR,mD,IG⟩:∃(z:Int) (c':Nat),z=x-y-c+1000000000*c'/\c'<=1/\0<=z/\z<1000000000/\((x-y-c<0/\c'=1)\/(¬x-y-c<0/\c'=0)):=by
   by_cases h:x-y-c<0
   ·exact ⟨x-y-c+1000000000,1,by omega,by omega,by omega,by omega,.inl ⟨h,rfl⟩⟩
   ·exact ⟨x-y-c,0,by omega,by omega,by omega,by omega,.inr ⟨h,rfl⟩⟩
  have kK:=anf hx hy ga.1 gb.1 lR hz hlen aT;have E6:dg (out++[z]):=gV.2 ⟨li,jO.2 ⟨lR,mD⟩⟩;have Sm:(out++[z]).length=i+1:=by simp [hlen]
  have fin:∃s',D P L rb s=some (.normal,s')/\bH [0,1,5,6,7] s'=⟨[(0,v),(1,w),(5,.ak 0 0 (i+1)),(6,aa c'),(7,aa (i+1:Nat))],[(0,.cells true true false 1 ((out++[z]).map aa))],1,0⟩:=by
   rcases IG with ⟨fK,rfl⟩ | ⟨fK,rfl⟩
   ·have ia:x-y-c+1000000000=z:=by omega
    rcases hs with ⟨h0,rfl⟩ | ⟨h0,rfl⟩
    ·subst h0;have mB:out=[]:=yN hlen;subst mB
     simp only [go_sem,ya,yb,xR,yy,yg,yi,rb,hv.len,hw.ai,show ((0:Nat):Int)<a.length by omega,e1,e2,wrap64 (n:=x-y) (by omega) (by omega),wrap64 (n:=x-y-(c:Int)) (by omega) (by omega),fK,ia,wrap64 (n:=z) (by omega) (by omega),lY];refine ⟨_,rfl,?_⟩;rw [wrap64 (by omega) (by omega)];simp only [go_sem,ya,yb,aD,aM hv.pu,aQ _ hv.pu,aM hw.pu,aQ _ hw.pu]<;>rfl
    ·simp only [go_sem,ya,yb,yg,yi,rb,hv.len,hw.ai,show (i:Int)<a.length by omega,e1,e2,wrap64 (n:=x-y) (by omega) (by omega),wrap64 (n:=x-y-(c:Int)) (by omega) (by omega),fK,ia,wrap64 (n:=z) (by omega) (by omega)]
     rw [lk (ex:=false) (pu:=true) (cs:=out.map aa) (by simp only [go_sem,ya]) (by rw [xx,hlen,yi]) (by omega) (by omega) (by decide) (by simp only [go_sem])];simp only [go_sem,ya,yb];refine ⟨_,rfl,?_⟩;rw [wrap64 (by omega) (by omega),xq];simp only [go_sem,ya,yb,aD,aM hv.pu,aQ _ hv.pu,aM hw.pu,aQ _ hw.pu]<;>rfl
   ·have ia:x-y-c=z:=by omega
    have fK:¬z<0:=by omega
    rcases hs with ⟨h0,rfl⟩ | ⟨h0,rfl⟩
    ·subst h0;have mB:out=[]:=yN hlen;subst mB
     simp only [go_sem,ya,yb,xR,yy,yg,yi,rb,hv.len,hw.ai,show ((0:Nat):Int)<a.length by omega,e1,e2,wrap64 (n:=x-y) (by omega) (by omega),ia,wrap64 (n:=z) (by omega) (by omega),fK,lY];refine ⟨_,rfl,?_⟩;rw [wrap64 (by omega) (by omega)];simp only [go_sem,ya,yb,aD,aM hv.pu,aQ _ hv.pu,aM hw.pu,aQ _ hw.pu]<;>rfl
    ·simp only [go_sem,ya,yb,yg,yi,rb,hv.len,hw.ai,show (i:Int)<a.length by omega,e1,e2,wrap64 (n:=x-y) (by omega) (by omega),ia,wrap64 (n:=z) (by omega) (by omega),fK]
     rw [lk (ex:=false) (pu:=true) (cs:=out.map aa) (by simp only [go_sem,ya]) (by rw [xx,hlen,yi]) (by omega) (by omega) (by decide) (by simp only [go_sem])];simp only [go_sem,ya,yb];refine ⟨_,rfl,?_⟩;rw [wrap64 (by omega) (by omega),xq];simp only [go_sem,ya,yb,aD,aM hv.pu,aQ _ hv.pu,aM hw.pu,aQ _ hw.pu]<;>rfl
  obtain ⟨s',f1,f2⟩:=fin;exact ⟨s',k-1,f1,by omega,i+1,c',_,by omega,Sm,nl,E6,kK,.inr ⟨by omega,f2⟩⟩
 ·right
  have aeF:dv out+dv b=dv a:=by
   rw [yL (by omega),yL (by omega)] at aT;have bi:=jx li;rw [hlen] at bi;rcases (show c=0\/c=1 by omega) with rfl | rfl
   ·omega
   ·omega
  rcases hs with ⟨h0,rfl⟩ | ⟨h0,rfl⟩
  ·simp only [go_sem,ya,rb,hv.len,show ¬(i:Int)<a.length by omega];exact ⟨_,_,rfl,by simp,_,out,rfl,li,aeF,by omega,.inl ⟨yN (by omega),by simp only [go_sem,ya],rfl⟩⟩
  ·simp only [go_sem,ya,rb,hv.len,show ¬(i:Int)<a.length by omega];exact ⟨_,_,rfl,by simp,_,out,rfl,li,aeF,by omega,.inr ⟨by omega,by rw [hlen];simp only [go_sem,ya],rfl⟩⟩
def afI (h:Has P L 297 I1) (nc:Has P L 302 rD) (cY:Has P L 300 lG) {v w:AV} {a b:List Int} (hv:bq v a) (hw:bq w b) (ha:dg a) (hb:dg b) (na:nz a) (nb:nz b) (la:a.length<=20000000000) (hle:dv b<=dv a):
  ∃r out,ae P L 297 [v,w] r/\bq r out/\shut r=r/\dg out/\nz out/\dv out+dv b=dv a:=by
 have Dv:b.length<=a.length:=by
  by_cases h:a.length<b.length
  ·have:=RC ha nb hb h;omega
  ·omega
 unfold ae;rw [av h];simp only [go_sem,I1];generalize hq:D P L (.loop [0,1,5,6,7] rb) _=q;obtain ⟨ex,s,rfl,tm,out,rfl,hd,aT,hl,hs⟩:=cd hq (arZ (P:=P) (L:=L) nc hv hw ha hb la hle Dv a.length) ⟨0,0,[],by omega,rfl,by omega,rfl,by simp [dv],.inl ⟨rfl,by simp only [go_sem,ya,aD,aM hv.pu,aQ _ hv.pu,aM hw.pu,aQ _ hw.pu]<;>rfl⟩⟩
 have nT:=fN false out;rcases hs with ⟨h0,h5,rfl⟩ | ⟨h0,h5,rfl⟩
 ·subst h0;obtain ⟨r,e1,hr,ij⟩:=Bm cY (v:= .ab) (l:=[]) qV (by simp);refine ⟨r,dZ [],?_,hr,ij,rfl,rfl,by rw [sI];exact aT⟩
  simp only [go_sem,aD,h5,e1,ij,hr.dn]
 ·obtain ⟨r,e1,hr,ij⟩:=Bm cY nT hl;refine ⟨r,dZ out,?_,hr,ij,AF hd,DZ out,by rw [sI];exact aT⟩
  have gH:∀hp:Hp,lH 0 out.length (some (false,1,out.map aa,hp))=some (.aE false out.length (out.map aa),hp):=fun hp=>oh false (by simp) (by decide)
  simp only [go_sem,yb,aD,h5,gH,e1,ij,hr.dn]
end
end
section
open Go (IntKind)
def B0 {hp:Hp} {ct id o:Nat} {v:Int} {ex:Bool} {l:List Int} (h:o<l.length):fy hp ct id o 1 [.int .i64 v] (some (.cells true true ex 1 (l.map aa)))=some (.aq [],aY hp id (.cells true true ex 1 ((l.set o v).map aa)),ct):=by
 rw [mj (by rfl) (by simp;omega) (by rfl)]
 have:over o [AV.int .i64 v] (l.map aa)=(l.set o v).map aa:=by
  simp only [over,yv,yF,yd];rw [List.map_set,List.set_eq_take_append_cons_drop,yJ (by simpa using h)]
  simp
 rw [this];rfl
def rn {l:List Int} {o:Nat} (h:o<l.length):xv o (l.map aa)=AV.int .i64 (l.getD o 0)::xv (o+1) (l.map aa):=by
 rw [yO (by simpa using h)]
 grind
def pU {v:AV} {l:List Int} (hv:bq v l) {i:Nat} (h:i<l.length):gZ 1 i v=some (.aF (.int .i64 (l.getD i 0)::(l.map aa).drop (i+1))):=by
 rw [hv.bj h]
 grind
def ang {o x y c:Int} (ho:0<=o/\o<1000000000) (hx:0<=x/\x<1000000000) (hy:0<=y/\y<1000000000) (hc:0<=c/\c<1000000000):
  (0<=x*y/\x*y<=999999998000000001)/\0<=o+x*y+c/\o+x*y+c<1000000000000000000:=by
 have h1:=Int.mul_nonneg hx.1 hy.1;have h2:=Int.mul_le_mul (show x<=999999999 by omega) (show y<=999999999 by omega) hy.1 (by decide);omega
section
variable {P:aK} {L:Lib}
def ar0 {v w:AV} {a b:List Int} (hv:bq v a) (hw:bq w b) (ha:dg a) (hb:dg b) (la:a.length<=20000000000) (lb:b.length<=20000000000) {n i:Nat} (hn:n=a.length+b.length) (hi:i<a.length) {out0:List Int}:
  ∀k s,(∃(j:Nat) (c:Int) (out:List Int),bH [0,1,5,6,7,8] s=⟨[(0,v),(1,w),(5,.ak 0 0 n),(6,aa i),(7,aa c),(8,aa j)],[(0,.cells true true true 1 (out.map aa))],1,0⟩/\j+k=b.length/\out.length=n/\dg out/\(0<=c/\c<1000000000)/\
    dv out+1000000000^i*1000000000^j*c.toNat=dv out0+1000000000^i*((a.getD i 0).toNat*dv (b.take j))/\(∀m,i+b.length<=m->out.getD m 0=out0.getD m 0))->
   ∃ex s',D P L (.loop [0,1,5,6,7,8] Ig) s=some (ex,s')/\∃tm c out,s'=⟨tm,[(0,.cells true true true 1 (out.map aa))],1,0⟩/\ex= .exit 2/\af tm 0=v/\af tm 1=w/\af tm 5= .ak 0 0 n/\af tm 6=aa i/\af tm 7=aa c/\out.length=n/\dg out/\(0<=c/\c<1000000000)/\
    dv out+1000000000^i*1000000000^b.length*c.toNat=dv out0+1000000000^i*((a.getD i 0).toNat*dv b)/\(∀m,i+b.length<=m->out.getD m 0=out0.getD m 0):=by
 refine cC (I:=fun k s=>∃(j:Nat) (c:Int) (out:List Int),s=⟨[(0,v),(1,w),(5,.ak 0 0 n),(6,aa i),(7,aa c),(8,aa j)],[(0,.cells true true true 1 (out.map aa))],1,0⟩/\j+k=b.length/\out.length=n/\dg out/\(0<=c/\c<1000000000)/\
    dv out+1000000000^i*1000000000^j*c.toNat=dv out0+1000000000^i*((a.getD i 0).toNat*dv (b.take j))/\(∀m,i+b.length<=m->out.getD m 0=out0.getD m 0))
  (Q:=fun ex s'=>∃tm c out,s'=⟨tm,[(0,.cells true true true 1 (out.map aa))],1,0⟩/\ex= .exit 2/\af tm 0=v/\af tm 1=w/\af tm 5= .ak 0 0 n/\af tm 6=aa i/\af tm 7=aa c/\out.length=n/\dg out/\(0<=c/\c<1000000000)/\
    dv out+1000000000^i*1000000000^b.length*c.toNat=dv out0+1000000000^i*((a.getD i 0).toNat*dv b)/\(∀m,i+b.length<=m->out.getD m 0=out0.getD m 0)) ?_
 rintro k s ⟨j,c,out,rfl,hk,hlen,hd,hc,aT,fY⟩;by_cases hj:j<b.length
 ·left
  obtain ⟨x,hx⟩:∃x,x=a.getD i 0:=⟨_,rfl⟩;obtain ⟨y,hy⟩:∃y,y=b.getD j 0:=⟨_,rfl⟩;obtain ⟨o,ho⟩:∃o,o=out.getD (i+j) 0:=⟨_,rfl⟩;have gx:=gW ha i;have gy:=gW hb j;have nm:=gW hd (i+j);rw [<-hx] at gx;rw [<-hy] at gy;rw [<-ho] at nm;obtain ⟨p1,p2,p3⟩:=ang nm gx gy hc;obtain ⟨t,ht⟩:∃t:Nat,o+x*y+c=t:=⟨(o+x*y+c).toNat,by omega⟩;have hr:((t:Nat):Int).tmod 1000000000=((t%1000000000:Nat):Int):=by rw [xm (by omega)];rfl
  have hq:((t:Nat):Int).tdiv 1000000000=((t/1000000000:Nat):Int):=by rw [xK (by omega)];rfl
  have e1:=pU hv hi;have e2:=pU hw hj;rw [<-hx] at e1;rw [<-hy] at e2;have e3:=rn (l:=out) (o:=i+j) (by omega);rw [<-ho] at e3;have z8:t=o.toNat+x.toNat*y.toNat+c.toNat:=by
   have:((x.toNat*y.toNat:Nat):Int)=x*y:=by rw [vh,uO gx.1,uO gy.1]
   omega
  have aY:=RD (l:=out) (j:=i+j) (x:=((t%1000000000:Nat):Int)) (by omega);rw [<-ho,wC,wP] at aY;have kK:=alY (Y:=dv (b.take j)) z8 aY (by rw [hx];exact aT)
  simp only [go_sem,ya,yi,Ig,hw.len,show (j:Int)<b.length by omega,wrapN (n:=i+j) (by omega),show (i:Int)+(j:Int)=((i+j:Nat):Int) from rfl,dd 0 0 (show i+j<n by omega),yd,e3,e1,e2,wrap64 (n:=x*y) (by omega) (by omega),wrap64 (n:=o+x*y) (by omega) (by omega),ht,wrapN (n:=t) (by omega),eD _ _ _ (show (1000000000:Int)≠0 by decide),fq _ _ _ (show (1000000000:Int)≠0 by decide),hr,hq,wrapN (n:=t/1000000000) (by omega),B0 (l:=out) (o:=i+j) (by omega)];refine ⟨_,k-1,rfl,by omega,j+1,((t/1000000000:Nat):Int),out.set (i+j) ((t%1000000000:Nat):Int),?_,by omega,by simp [hlen],Mb hd (by omega),by omega,?_,fun m hm=>?_⟩
  ·rw [wrap64 (by omega) (by omega)];simp only [go_sem,ya,yb,aD,aM hv.pu,aQ _ hv.pu,aM hw.pu,aQ _ hw.pu]<;>rfl
  ·rw [wC,oz,xg,<-hx,<-hy];exact kK
  ·rw [ZR (by omega)];exact fY m hm
 ·right
  have:j=b.length:=by omega
  subst this;rw [wz] at aT;simp only [go_sem,ya,Ig,hw.len,show ¬(b.length:Int)<b.length by omega];exact ⟨_,_,rfl,by simp,_,c,out,rfl,rfl,by simp only [go_sem,ya],by simp only [go_sem,ya],by simp only [go_sem,ya],by simp only [go_sem,ya],by simp only [go_sem,ya],hlen,hd,hc,aT,fY⟩
end
end
section
open Go (IntKind)
def PW (n:Nat):(yA n [AV.int .i64 0]).flatten=(yA n (0:Int)).map aa:=by simp_all
def apm (b:Bool):I9 true (some b)=some (.bool (!b)):=by cases b<;>rfl
def Yl (n m:Nat):(yA n (0:Int)).getD m 0=0:=by grind
section
variable {P:aK} {L:Lib}
def ar1 {v w:AV} {a b:List Int} (hv:bq v a) (hw:bq w b) (ha:dg a) (hb:dg b) (la:a.length<=20000000000) (lb:b.length<=20000000000) {n:Nat} (hn:n=a.length+b.length):
  ∀k s,(∃(i:Nat) (out:List Int),bH [0,1,5,6] s=⟨[(0,v),(1,w),(5,.ak 0 0 n),(6,aa i)],[(0,.cells true true true 1 (out.map aa))],1,0⟩/\i+k=a.length/\out.length=n/\dg out/\dv out=dv (a.take i)*dv b/\(∀m,i+b.length<=m->out.getD m 0=0))->
   ∃ex s',D P L (.loop [0,1,5,6] Ih) s=some (ex,s')/\∃tm out,s'=⟨tm,[(0,.cells true true true 1 (out.map aa))],1,0⟩/\ex= .exit 0/\af tm 5= .ak 0 0 n/\out.length=n/\dg out/\dv out=dv a*dv b:=by
 refine cC (I:=fun k s=>∃(i:Nat) (out:List Int),s=⟨[(0,v),(1,w),(5,.ak 0 0 n),(6,aa i)],[(0,.cells true true true 1 (out.map aa))],1,0⟩/\i+k=a.length/\out.length=n/\dg out/\dv out=dv (a.take i)*dv b/\(∀m,i+b.length<=m->out.getD m 0=0))
  (Q:=fun ex s'=>∃tm out,s'=⟨tm,[(0,.cells true true true 1 (out.map aa))],1,0⟩/\ex= .exit 0/\af tm 5= .ak 0 0 n/\out.length=n/\dg out/\dv out=dv a*dv b) ?_
 rintro k s ⟨i,out,rfl,hk,hlen,hd,aT,fY⟩;by_cases hi:i<a.length
 ·left
  simp only [go_sem,ya,Ih,hv.len,show (i:Int)<a.length by omega];generalize hq:D P L (.loop [0,1,5,6,7,8] Ig) _=q;obtain ⟨ex,s,rfl,tm,c,rI,rfl,rfl,t0,t1,t5,t6,t7,CF,jj,hc,Sj,Je⟩:=cd hq (ar0 (P:=P) (L:=L) hv hw ha hb la lb hn hi (out0:=out) b.length) ⟨0,0,out,by simp only [go_sem,ya,yb,aD,aM hv.pu,aQ _ hv.pu,aM hw.pu,aQ _ hw.pu]<;>rfl,by omega,hlen,hd,by omega,by simp [dv],fun m _=>rfl⟩
  have hz:rI.getD (i+b.length) 0=0:=by rw [Je _ (yD _),fY _ (yD _)]
  have e3:=rn (l:=rI) (o:=i+b.length) (by omega);rw [hz] at e3;have aY:=RD (l:=rI) (j:=i+b.length) (x:=c) (by omega);rw [hz,wP] at aY
  simp only [go_sem,ya,yi,aD,t0,t1,t5,t6,t7,hw.len,aM hv.pu,aQ _ hv.pu,aM hw.pu,aQ _ hw.pu,wrapN (n:=i+b.length) (by omega),show (i:Int)+(b.length:Int)=((i+b.length:Nat):Int) from rfl,dd 0 0 (show i+b.length<n by omega),yd,e3,Int.zero_add,wrap64 (n:=c) (by omega) (by omega),B0 (l:=rI) (o:=i+b.length) (by omega)];refine ⟨_,k-1,rfl,by omega,i+1,rI.set (i+b.length) c,?_,by omega,by simp [CF],Mb jj hc,?_,fun m hm=>?_⟩
  ·rw [wrap64 (by omega) (by omega)];simp only [go_sem,ya,yb,aD,aM hv.pu,aQ _ hv.pu,aM hw.pu,aQ _ hw.pu]<;>rfl
  ·rw [oz,wG,<-aT,xk];simp only [Int.toNat_zero,xJ,yX] at aY;rw [aY];exact Sj
  ·rw [ZR (by omega),Je m (by omega),fY m (by omega)]
 ·right
  have:i=a.length:=by omega
  subst this;rw [wz] at aT;simp only [go_sem,ya,Ih,hv.len,show ¬(a.length:Int)<a.length by omega];exact ⟨_,_,rfl,by simp,_,out,rfl,rfl,by simp only [go_sem,ya],hlen,hd,aT⟩
def TH (h:Has P L 293 Bf) (cY:Has P L 300 lG) {v w:AV} {a b:List Int} (hv:bq v a) (hw:bq w b) (ha:dg a) (hb:dg b) (la:a.length<=8000000000) (lb:b.length<=8000000000):
  ∃r out,ae P L 293 [v,w] r/\bq r out/\shut r=r/\dg out/\nz out/\dv out=dv a*dv b:=by
 obtain ⟨n,hn⟩:∃n,n=a.length+b.length:=⟨_,rfl⟩;have cQ:∀ct:Nat,zE ct 1 8 [.int .i64 0] (some n) (some n)=some (.ak ct 0 n,.cells true true true 1 ((yA n (0:Int)).map aa)):=fun ct=>by
  rw [Ek (sz:=1) (by omega) (by omega) (by rfl) (by rfl),PW];rfl
 unfold ae;rw [av h]
 simp only [go_sem,ya,yb,Bf,hv.len,hw.len,wrapN (n:=n) (by omega),show (a.length:Int)+(b.length:Int)=((a.length+b.length:Nat):Int) from rfl,<-hn,cQ];generalize hq:D P L (.loop [0,1,5,6] Ih) _=q;obtain ⟨ex,s,rfl,tm,out,rfl,rfl,t5,hlen,hd,aT⟩:=cd hq (ar1 (P:=P) (L:=L) hv hw ha hb (by omega) (by omega) hn a.length) ⟨0,yA n 0,by simp only [go_sem,ya,yb,aD,aM hv.pu,aQ _ hv.pu,aM hw.pu,aQ _ hw.pu]<;>rfl,by omega,by simp,ZT n,by rw [ZS];simp [dv],fun m _=>Yl n m⟩
 have nT:=fN true out;rw [hlen] at nT;obtain ⟨r,e1,hr,ij⟩:=Bm cY nT (by omega);refine ⟨r,dZ out,?_,hr,ij,AF hd,DZ out,by rw [sI];exact aT⟩
 have gH:∀hp:Hp,lH 0 n (some (true,1,out.map aa,hp))=some (.aE true n (out.map aa),hp):=fun hp=>oh true (by simp [hlen]) (by decide)
 simp only [go_sem,yb,aD,t5,gH,e1,ij,hr.dn]
def TI (h:Has P L 278 Np) (mC:Has P L 293 Bf) (jV:Has P L 294 Bg) (cY:Has P L 300 lG) {v w:AV} {n m:Int} {K:Nat} (hK:K<=8000000000) (hv:km v n) (hw:km w m) (hn:n.natAbs<1000000000^K) (hm:m.natAbs<1000000000^K):
  ∃r,ae P L 278 [v,w] r/\km r (n*m):=by
 obtain ⟨x,a,rfl,hx,ha,na,va⟩:=hv;obtain ⟨y,b,rfl,hy,hb,nb,vb⟩:=hw;have la:=xi (iY ha na (by rw [va];exact hn)) hK
 have lb:=xi (iY hb nb (by rw [vb];exact hm)) hK
 obtain ⟨z,out,e1,hz,ij,hd,BT,aT⟩:=TH mC cY hx hy ha hb la lb;have lo:out.length<=20000000000:=by
  refine iY hd BT ?_;rw [aT];have h1:=jx ha;have h2:=jx hb;have h3:dv a*dv b<1000000000^a.length*1000000000^b.length:=Nat.mul_lt_mul'' h1 h2;rw [<-wP] at h3;have hk:∀K,a.length+b.length<=K->dv a*dv b<1000000000^K:=fun K h=>yH h3 (xn (by decide) h)
  exact hk 20000000000 (by omega)
 obtain ⟨r,e2,hr⟩:=zH jV cY (!(decide (n<0)==decide (m<0))) hz hd lo;have e:cL (!(decide (n<0)==decide (m<0))) (dv out)=n*m:=by
  rw [aT,va,vb];have hnm:((n.natAbs*m.natAbs:Nat):Int)=(n.natAbs:Int)*m.natAbs:=vh _ _;unfold cL;by_cases h0:n<0<;>by_cases h1:m<0<;>simp only [h0,h1,yq,yp,tx,Bool.not_true,yC,yR,hnm]
  ·rw [show (n.natAbs:Int)= -n by omega,show (m.natAbs:Int)= -m by omega,Int.neg_mul_neg]
  ·rw [show (true==false)=false from rfl,yI,yJ rfl,show (n.natAbs:Int)= -n by omega,show (m.natAbs:Int)=m by omega,Int.neg_mul,ybw]
  ·rw [show (false==true)=false from rfl,yI,yJ rfl,show (n.natAbs:Int)=n by omega,show (m.natAbs:Int)= -m by omega,Int.mul_neg,ybw]
  ·rw [show (n.natAbs:Int)=n by omega,show (m.natAbs:Int)=m by omega]
 rw [e] at hr;obtain ⟨w2,l2,rfl,gR,dR,iz,zI⟩:=hr;refine ⟨_,?_,w2,l2,rfl,gR,dR,iz,zI⟩;unfold ae at e1 e2 ⊢;rw [av h];simp only [go_sem,ya,yb,Np,aH,hx.pu,hx.ai,hx.one,hy.pu,hy.ai,hy.one,hz.ai,hz.shut,gR.pu,gR.one,bg,yd,bY,e1,oM,apm,e2,fe,bE];rcases gR with ⟨rfl,_⟩ | ⟨e,rfl⟩<;>rfl
end
end
section
open Go (IntKind)
def apn (i:Nat) (q:List Int) (x:Int):(yA (i+1) (0:Int)++q).set i x=yA i 0++x::q:=by
 rw [List.replicate_succ',List.append_assoc,List.set_append_right _ _ (by simp)]
 simp
section
variable {P:aK} {L:Lib}
def ar2 {v:AV} {a:List Int} (hv:bq v a) (ha:dg a) (la:a.length<=20000000000) {d:Nat} (h0:0<d) (h1:d<1000000000):
  ∀k s,(∃(j r:Nat) (q:List Int),bH [0,1,6,7,8] s=⟨[(0,v),(1,aa d),(6,.ak 0 0 a.length),(7,aa r),(8,aa ((j:Int)-1))],[(0,.cells true true true 1 ((yA j (0:Int)++q).map aa))],1,0⟩/\j=k/\j+q.length=a.length/\r<d/\dg q/\dv (a.drop j)=d*dv q+r)->
   ∃ex s',D P L (.loop [0,1,6,7,8] Ii) s=some (ex,s')/\∃tm r q,s'=⟨tm,[(0,.cells true true true 1 (q.map aa))],1,0⟩/\ex= .exit 0/\af tm 6= .ak 0 0 a.length/\af tm 7=aa (r:Nat)/\q.length=a.length/\r<d/\dg q/\dv a=d*dv q+r:=by
 refine cC (I:=fun k s=>∃(j r:Nat) (q:List Int),s=⟨[(0,v),(1,aa d),(6,.ak 0 0 a.length),(7,aa r),(8,aa ((j:Int)-1))],[(0,.cells true true true 1 ((yA j (0:Int)++q).map aa))],1,0⟩/\j=k/\j+q.length=a.length/\r<d/\dg q/\dv (a.drop j)=d*dv q+r)
  (Q:=fun ex s'=>∃tm r q,s'=⟨tm,[(0,.cells true true true 1 (q.map aa))],1,0⟩/\ex= .exit 0/\af tm 6= .ak 0 0 a.length/\af tm 7=aa (r:Nat)/\q.length=a.length/\r<d/\dg q/\dv a=d*dv q+r) ?_
 rintro k s ⟨j,r,q,rfl,rfl,hl,hr,hd,aT⟩
 cases j with
 | zero=>
  right
  simp only [go_sem,ya,Ii,show ¬(0:Int)<=((0:Nat):Int)-1 by omega];exact ⟨_,_,rfl,by simp,_,r,q,rfl,rfl,by simp only [go_sem,ya],by simp only [go_sem,ya],by omega,hr,hd,aT⟩
 | succ i=>
  left
  have hi:i<a.length:=by omega
  obtain ⟨x,hx⟩:∃x,x=a.getD i 0:=⟨_,rfl⟩;have e1:=pU hv hi;have gx:=gW ha i;rw [<-hx] at e1 gx;obtain ⟨t,ht⟩:∃t:Nat,t=r*1000000000+x.toNat:=⟨_,rfl⟩;have z8:(r:Int)*1000000000+x=(t:Int):=by omega
  have ki:t<d*1000000000:=by
   omega
  have eG:t/d<1000000000:=(xZ h0).2 (by rw [xN];exact ki)
  have cw:t%d<d:=xC _ h0;have e2:((t:Nat):Int).tdiv d=((t/d:Nat):Int):=by rw [xK (by omega)];rfl
  have e3:((t:Nat):Int).tmod d=((t%d:Nat):Int):=by rw [xm (by omega)];rfl
  have J8:(yA (i+1) (0:Int)++q).length=a.length:=by simp;omega
  have bf:=fun (hp:Hp) (ct id:Nat) (ex:Bool)=>B0 (hp:=hp) (ct:=ct) (id:=id) (ex:=ex) (v:=((t/d:Nat):Int)) (l:=yA (i+1) (0:Int)++q) (o:=i) (by rw [J8];exact hi)
  simp only [apn] at bf
  simp only [go_sem,ya,yi,Ii,show ((i+1:Nat):Int)-1=(i:Int) by omega,show (0:Int)<=(i:Int) by omega,wrap64 (n:=(r:Int)*1000000000) (by omega) (by omega),e1,z8,wrapN (n:=t) (by omega),fq _ _ _ (show (d:Int)≠0 by omega),eD _ _ _ (show (d:Int)≠0 by omega),e2,e3,wrapN (n:=t/d) (by omega),dd 0 0 (show i<a.length from hi),yd,bf]
  refine ⟨_,i,rfl,by omega,i,t%d,((t/d:Nat):Int)::q,?_,rfl,by simp;omega,cw,(gV (a:=[((t/d:Nat):Int)]) (b:=q)).2 ⟨jO.2 ⟨Int.natCast_nonneg _,uB.2 eG⟩,hd⟩,?_⟩
  ·rw [wrap64 (by omega) (by omega)];simp only [go_sem,ya,yb,aD,aM hv.pu,aQ _ hv.pu]<;>rfl
  ·have ig:a.drop i=x::a.drop (i+1):=by
    rw [yO hi,hx];simp [xM,wh hi]
   rw [ig];simp only [dv,aT,wC];have e:=wB t d;rw [xD,xD d,Nat.mul_left_comm 1000000000 d];omega
def afJ (h:Has P L 299 Bh) (cY:Has P L 300 lG) {v:AV} {a:List Int} (hv:bq v a) (ha:dg a) (la:a.length<=20000000000) {d:Nat} (h0:0<d) (h1:d<1000000000):
  ∃r q,ae P L 299 [v,aa d] (.aq [r,aa (dv a%d:Nat)])/\bq r q/\shut r=r/\bO r=r/\dg q/\nz q/\dv q=dv a/d:=by
 obtain ⟨n,hn⟩:∃n,n=a.length:=⟨_,rfl⟩;have cQ:∀ct:Nat,zE ct 1 8 [.int .i64 0] (some n) (some n)=some (.ak ct 0 n,.cells true true true 1 ((yA n (0:Int)).map aa)):=fun ct=>by
  rw [Ek (sz:=1) (by omega) (by omega) (by rfl) (by rfl),PW];rfl
 unfold ae;rw [av h];simp only [go_sem,ya,yb,Bh,hv.len,<-hn,cQ];generalize hq:D P L (.loop [0,1,6,7,8] Ii) _=q;obtain ⟨ex,s,rfl,tm,r,qs,rfl,rfl,t6,t7,hlen,hr,hd,aT⟩:=cd hq (ar2 (P:=P) (L:=L) hv ha la h0 h1 a.length) ⟨a.length,0,[],by
  rw [wrap64 (by omega) (by omega),List.append_nil,<-hn]
  simp only [go_sem,ya,yb,aD,aM hv.pu,aQ _ hv.pu]<;>rfl,rfl,by simp,h0,rfl,by rw [xj (yD _)];simp [dv]⟩
 have nT:=fN true qs;rw [hlen] at nT;obtain ⟨w,e1,hw,ij⟩:=Bm cY nT (by omega);have fL:dv a/d=dv qs/\dv a%d=r:=(Nat.div_mod_unique h0).2 ⟨by omega,hr⟩;refine ⟨w,dZ qs,?_,hw,ij,hw.bO,AF hd,DZ qs,by rw [sI,fL.1]⟩;have gH:∀hp:Hp,lH 0 a.length (some (true,1,qs.map aa,hp))=some (.aE true a.length (qs.map aa),hp):=fun hp=>oh true (by simp [hlen]) (by decide)
 rw [fL.2];simp only [go_sem,ya,yb,aD,t6,t7,gH,e1,ij];rcases hw with ⟨rfl,_⟩ | ⟨e,rfl⟩<;>rfl
def avm (h:Has P L 279 ES) (TJ:Has P L 295 I0) (nO:Has P L 296 rC) (NU:Has P L 297 I1) (nc:Has P L 302 rD) (jV:Has P L 294 Bg) (cY:Has P L 300 lG) {v w:AV} {n m:Int} {K:Nat} (hK:K<=8000000000) (hv:km v n) (hw:km w m) (hn:n.natAbs<1000000000^K) (hm:m.natAbs<1000000000^K):
  ∃r,ae P L 279 [v,w] r/\km r (n+m):=by
 obtain ⟨x,a,rfl,hx,ha,na,va⟩:=hv;obtain ⟨y,b,rfl,hy,hb,nb,vb⟩:=hw;have la:=xi (iY ha na (by rw [va];exact hn)) hK
 have lb:=xi (iY hb nb (by rw [vb];exact hm)) hK
 by_cases hs:(decide (n<0)==decide (m<0))=true
 ·obtain ⟨z,out,e1,hz,hd,aT,hl⟩:=avl TJ nc hx hy ha hb (by omega) (by omega);have lo:out.length<=20000000000:=by omega
  obtain ⟨r,e2,hr⟩:=zH jV cY (decide (n<0)) hz hd lo;have e:cL (decide (n<0)) (dv out)=n+m:=by
   have Dz:(n<0)=(m<0):=by simpa using eq_of_beq hs
   rw [aT,va,vb];unfold cL;by_cases h0:n<0
   ·have h1:m<0:=Dz▸h0;simp only [h0,yq,y7];omega
   ·have h1:¬m<0:=Dz▸h0;simp only [h0,yp,yC,yR];omega
  rw [e] at hr;obtain ⟨w2,l2,rfl,gR,dR,iz,zI⟩:=hr;refine ⟨_,?_,w2,l2,rfl,gR,dR,iz,zI⟩;unfold ae at e1 e2 ⊢;rw [av h];simp only [go_sem,ya,yb,ES,aH,hx.pu,hx.ai,hx.one,hy.pu,hy.ai,hy.one,hz.ai,gR.pu,gR.one,bg,yd,bY,e1,oM,dw,hs,e2,fe,bE];rcases gR with ⟨rfl,_⟩ | ⟨e,rfl⟩<;>rfl
 ·have hs:(decide (n<0)==decide (m<0))=false:=by simpa using hs
  have Dz:¬((n<0)=(m<0)):=fun e=>by simp [e] at hs
  have ec:=TG nO hx hy ha hb na nb (by omega) (by omega);by_cases hc:dv a<dv b
  ·have ez:dX (dv a) (dv b)= -1:=by unfold dX;rw [yJ hc]
   rw [ez] at ec;obtain ⟨z,out,e1,hz,ij,hd,BT,aT⟩:=afI NU nc cY hy hx hb ha nb na (by omega) (by omega);have lo:out.length<=20000000000:=by
    refine iY hd BT ?_
    have:=jx hb
    have hk:∀K,b.length<=K->dv out<1000000000^K:=fun K h=>yH (show dv out<1000000000^b.length by omega) (xn (by decide) h)
    exact hk 20000000000 (by omega)
   obtain ⟨r,e2,hr⟩:=zH jV cY (decide (m<0)) hz hd lo;have e:cL (decide (m<0)) (dv out)=n+m:=by
    rw [va,vb] at aT;unfold cL;by_cases h0:m<0
    ·have h1:¬n<0:=fun h1=>Dz (by simp [h0,h1])
     simp only [h0,yq,y7];omega
    ·have h1:n<0:=by
      by_cases h1:n<0
      ·exact h1
      ·exact absurd (by simp [h0,h1]) Dz
     simp only [h0,yp,yC,yR];omega
   rw [e] at hr;obtain ⟨w2,l2,rfl,gR,dR,iz,zI⟩:=hr;refine ⟨_,?_,w2,l2,rfl,gR,dR,iz,zI⟩;unfold ae at e1 e2 ec ⊢;rw [av h];simp only [go_sem,ya,yb,ES,aH,hx.pu,hx.ai,hx.one,hy.pu,hy.ai,hy.one,hz.ai,hz.shut,gR.pu,gR.one,bg,yd,bY,e1,oM,dw,hs,ec,show ¬(0:Int)<=-1 by decide,e2,fe,bE];rcases gR with ⟨rfl,_⟩ | ⟨e,rfl⟩<;>rfl
  ·have ez:(0:Int)<=dX (dv a) (dv b):=by unfold dX;rw [yz hc];split<;>decide
   obtain ⟨z,out,e1,hz,ij,hd,BT,aT⟩:=afI NU nc cY hx hy ha hb na nb (by omega) (by omega);have lo:out.length<=20000000000:=by
    refine iY hd BT ?_
    have:=jx ha
    have hk:∀K,a.length<=K->dv out<1000000000^K:=fun K h=>yH (show dv out<1000000000^a.length by omega) (xn (by decide) h)
    exact hk 20000000000 (by omega)
   obtain ⟨r,e2,hr⟩:=zH jV cY (decide (n<0)) hz hd lo;have e:cL (decide (n<0)) (dv out)=n+m:=by
    rw [va,vb] at aT;unfold cL;by_cases h0:n<0
    ·have h1:¬m<0:=fun h1=>Dz (by simp [h0,h1])
     simp only [h0,yq,y7];omega
    ·have h1:m<0:=by
      by_cases h1:m<0
      ·exact h1
      ·exact absurd (by simp [h0,h1]) Dz
     simp only [h0,yp,yC,yR];omega
   rw [e] at hr;obtain ⟨w2,l2,rfl,gR,dR,iz,zI⟩:=hr;refine ⟨_,?_,w2,l2,rfl,gR,dR,iz,zI⟩;unfold ae at e1 e2 ec ⊢;rw [av h];simp only [go_sem,ya,yb,ES,aH,hx.pu,hx.ai,hx.one,hy.pu,hy.ai,hy.one,hz.ai,hz.shut,gR.pu,gR.one,bg,yd,bY,e1,oM,dw,hs,ec,ez,e2,fe,bE];rcases gR with ⟨rfl,_⟩ | ⟨e,rfl⟩<;>rfl
end
end
section
open Go (IntKind)
section
variable {P:aK} {L:Lib}
def L4 {l:List Int} (hd:dg l) (hn:nz l) (h:dv l<1000000000):l.length<=1:=iY hd hn (by simpa using h)
def avn (h:Has P L 289 rB) (nO:Has P L 296 rC) (oV:Has P L 299 Bh) (cY:Has P L 300 lG) {v w:AV} {a b:List Int} (hv:bq v a) (hw:bq w b) (ha:dg a) (hb:dg b) (na:nz a) (nb:nz b) (la:a.length<=20000000000) (lb:b.length<=1) (h0:0<dv b):
  ∃q r lq lr,ae P L 289 [v,w] (.aq [q,r])/\bq q lq/\bq r lr/\dg lq/\nz lq/\dg lr/\nz lr/\dv lq=dv a/dv b/\dv lr=dv a%dv b:=by
 have ec:=TG nO hv hw ha hb na nb la (by omega);by_cases hc:dv a<dv b
 ·have ez:dX (dv a) (dv b)= -1:=by unfold dX;rw [yJ hc]
  rw [ez] at ec;refine ⟨.ab,v,[],a,?_,qV,hv,rfl,rfl,ha,na,?_,?_⟩
  ·unfold ae;rw [av h];simp only [go_sem,ya,rB,hv.ai,hw.ai,ec,show (-1:Int)<0 by decide];rcases hv with ⟨rfl,_⟩ | ⟨e,rfl⟩<;>rfl
  ·rw [Nat.div_eq_of_lt hc];rfl
  ·rw [Nat.mod_eq_of_lt hc]
 ·have ez:¬dX (dv a) (dv b)<0:=by unfold dX;rw [yz hc];split<;>decide
  have nd:b.length=1:=by
   rcases xr b.length with e | e
   ·rw [yN e] at h0;simp [dv] at h0
   ·omega
  obtain ⟨x,rfl⟩:∃x,b=[x]:=by
   cases b with
   | nil=>simp at nd
   | cons x r=>cases r with
    | nil=>exact ⟨x,rfl⟩
    | cons y r=>simp at nd
  have gx:=jO.1 hb;obtain ⟨d,hd⟩:∃d:Nat,x=d:=⟨x.toNat,by omega⟩;subst hd;have hdd:dv [((d:Nat):Int)]=d:=by simp [dv]
  rw [hdd] at h0 hc ez ec ⊢;obtain ⟨q,lq,e1,hq,hqs,avo,dq,nq,vq⟩:=afJ oV cY hv ha la h0 (by omega);have aeB:dv a%d<d:=xC _ h0;generalize dv a%d=m at*
  obtain ⟨r,e2,hr,GO⟩:=Bm cY (fN true [(m:Int)]) (by simp);refine ⟨q,r,lq,dZ [(m:Int)],?_,hq,hr,dq,nq,AF (jO.2 (by omega)),DZ _,vq,by rw [sI];simp [dv]⟩;have e3:=hw.bj (i:=0) (by simp);simp only [yv,yF,yd,List.map_cons,List.map_nil,List.getElem_cons_zero] at e2 e3;unfold ae;rw [av h];simp only [go_sem,ya,yb,yy,yg,yi,rB,hv.ai,hw.len,hw.ai,ec,ez,yv,yF,show ((1:Nat):Int)=(1:Int) from rfl,yq,e3,e1,avo,e2,GO];rcases hq with ⟨rfl,_⟩ | ⟨e,rfl⟩<;>rcases hr with ⟨rfl,_⟩ | ⟨e',rfl⟩<;>rfl
end
end
section
open Go (IntKind)
def sv:List Int->Int
 | []=>0
 | a::r=>a+1000000000*sv r
def Za:∀(a b:List Int),sv (a++b)=sv a+1000000000^a.length*sv b
 | [],b=>by simp [sv]
 | x::a,b=>by
  simp only [List.cons_append,sv,Za a b,yv,yaQ,ybM]
  grind
def ar3 (x:Int):sv [x]=x:=by simp [sv]
def En:∀{l:List Int} {i:Nat} {x:Int},i<l.length->sv (l.set i x)=sv l+1000000000^i*(x-l.getD i 0)
 | [],i,x,h=>by simp at h
 | a::l,0,x,_=>by simp [sv];omega
 | a::l,i+1,x,h=>by
  have ih:=En (l:=l) (i:=i) (x:=x) (by simpa using h);simp only [List.set_cons_succ,sv,List.getD_cons_succ,ih,yaQ,ybM]
  grind
def L5 {l:List Int} (i:Nat):sv (l.take (i+1))=sv (l.take i)+1000000000^i*l.getD i 0:=by
 by_cases h:i<l.length
 ·rw [List.take_succ_eq_append_getElem h,Za,yT,wE (by omega),ar3]
  grind
 ·rw [yL (by omega),yL (by omega),HB (by omega),Int.mul_zero,Int.add_zero]
def zn:∀{l:List Int},dg l->sv l=dv l
 | [],_=>rfl
 | a::l,h=>by
  obtain ⟨h1,h2⟩:=gV.1 (show dg ([a]++l) from h);have h1:=jO.1 h1;simp only [sv,dv,zn h2,Int.natCast_add,vh];omega
section
variable {pre x post:List Int} {i:Nat}
def nE:(pre++x++post).length=pre.length+x.length+post.length:=by grind
def AW (h:i<x.length):(pre++x++post).getD (pre.length+i) 0=x.getD i 0:=by grind
def Mk (a:Int) (h:i<x.length):(pre++x++post).set (pre.length+i) a=pre++x.set i a++post:=by simp_all
end
def ac3 {l:List Int} {i m:Nat} {x:Int} (h:i≠m):(l.set i x).getD m 0=l.getD m 0:=by simp_all
def akX {l:List Int} {i:Nat} {x:Int} (h:i<l.length):(l.set i x).getD i 0=x:=by simp_all
abbrev H3 (q u:List Int) (f:Int):Hp:=[(2,.cells true true true 1 (q.map aa)),(1,.cells true true false 1 (u.map aa)),(0,.cells false true true 1 [aa f])]
def Lz {live:List Nat} {tm:Env} {ct:Nat} {a b c:List AV} (ht:jq 3 (cX tm live)) (hl:(fb (cX tm live)).length<100000):
  bH live ⟨tm,[(2,.cells true true true 1 a),(1,.cells true true false 1 b),(0,.cells false true true 1 c)],ct,3⟩=⟨cX tm live,[(2,.cells true true true 1 a),(1,.cells true true false 1 b),(0,.cells false true true 1 c)],3,3⟩:=
 KK ht ⟨by omega,.inl rfl,by omega,.inl rfl,by omega,.inl rfl,trivial⟩ (by
  have:du 3 [(2,Obj.cells true true true 1 a),(1,Obj.cells true true false 1 b),(0,Obj.cells false true true 1 c)]=[]:=rfl
  rw [this,yF,yX];exact hl)
structure fS (x vs:List Int) (n v1 v2 u0 u1 u2:Nat):Prop where
 n2:2<=n
 nb:n<=20000000000
 lx:x.length=n+1
 lv:vs.length=n
 gx:dg x
 gv:dg vs
 er:vs.getD (n-1) 0=(v1:Int)
 cZ:vs.getD (n-2) 0=(v2:Int)
 h0:x.getD n 0=(u0:Int)
 h1:x.getD (n-1) 0=(u1:Int)
 h2:x.getD (n-2) 0=(u2:Int)
 pos:0<v1
 lt:dv x<1000000000*dv vs
section
variable {x vs:List Int} {n v1 v2 u0 u1 u2:Nat}
def fS.Ka (h:fS x vs n v1 v2 u0 u1 u2):v1<1000000000:=by have:=gW h.gv (n-1);rw [h.er] at this;omega
def fS.Dm (h:fS x vs n v1 v2 u0 u1 u2):v2<1000000000:=by have:=gW h.gv (n-2);rw [h.cZ] at this;omega
def fS.Vr (h:fS x vs n v1 v2 u0 u1 u2):u0<1000000000:=by have:=gW h.gx n;rw [h.h0] at this;omega
def fS.Kb (h:fS x vs n v1 v2 u0 u1 u2):u1<1000000000:=by have:=gW h.gx (n-1);rw [h.h1] at this;omega
def fS.Kc (h:fS x vs n v1 v2 u0 u1 u2):u2<1000000000:=by have:=gW h.gx (n-2);rw [h.h2] at this;omega
def fS.parts (h:fS x vs n v1 v2 u0 u1 u2):∃p vr ur,dv vs=(v1*1000000000+v2)*p+vr/\vr<p/\dv x=((u0*1000000000+u1)*1000000000+u2)*p+ur/\ur<p:=by
 obtain ⟨m,hm⟩:∃m,n=m+2:=⟨n-2,by have:=h.n2;omega⟩;subst hm;have e1:=oz (l:=vs) (m+1);have e2:=oz (l:=vs) m;have f0:=oz (l:=x) (m+2);have f1:=oz (l:=x) (m+1);have f2:=oz (l:=x) m;have er:vs.getD (m+1) 0=(v1:Int):=h.er;have cZ:vs.getD m 0=(v2:Int):=h.cZ;have h0:x.getD (m+2) 0=(u0:Int):=h.h0;have h1:x.getD (m+1) 0=(u1:Int):=h.h1;have h2:x.getD m 0=(u2:Int):=h.h2
 rw [yL (by have:=h.lv;omega),er,e2,cZ] at e1
 rw [yL (by have:=h.lx;omega),h0,f1,h1,f2,h2] at f0;simp only [wC] at e1 f0;have g1:=jx (Ch h.gv m)
 rw [yT,wE (by have:=h.lv;omega)] at g1;have g2:=jx (Ch h.gx m)
 rw [yT,wE (by have:=h.lx;omega)] at g2;refine ⟨1000000000^m,_,_,?_,g1,?_,g2⟩
 ·rw [e1,xg,ati]
 ·rw [f0,show 1000000000^(m+2)=1000000000^m*1000000000*1000000000 by rw [xg,xg],xg,atj]
def fS.down (h:fS x vs n v1 v2 u0 u1 u2) {t r:Nat} (ht:t*v1+r=u0*1000000000+u1) (hr:r*1000000000+u2<t*v2):dv x/dv vs<=t-1:=by
 obtain ⟨p,vr,ur,h1,h2,h3,h4⟩:=h.parts;exact X5 h1 h3 h4 ht hr
def fS.stop (h:fS x vs n v1 v2 u0 u1 u2) {t r:Nat} (ki:t<1000000000) (ht:t*v1+r=u0*1000000000+u1) (hr:1000000000<=r\/t*v2<=r*1000000000+u2):t<=dv x/dv vs+1:=by
 obtain ⟨p,vr,ur,h1,h2,h3,h4⟩:=h.parts;exact YT (by decide) h1 h2 h3 h.pos h.Dm ki ht hr
def fS.first (h:fS x vs n v1 v2 u0 u1 u2):dv x/dv vs<=(u0*1000000000+u1)/v1:=by
 obtain ⟨p,vr,ur,h1,h2,h3,h4⟩:=h.parts;exact PC h1 h3 h4 h.Kc h.pos
def fS.top (h:fS x vs n v1 v2 u0 u1 u2):u0<=v1:=by
 obtain ⟨p,vr,ur,h1,h2,h3,h4⟩:=h.parts;exact YU h1 h3 h2 h.Dm h.lt
def fS.digit (h:fS x vs n v1 v2 u0 u1 u2):dv x/dv vs<1000000000:=by
 refine (xZ ?_).2 h.lt;rcases xr (dv vs) with h0 | h0
 ·have:=h.lt;rw [h0] at this;simp at this
 ·exact h0
def fS.small (h:fS x vs n v1 v2 u0 u1 u2) {t r:Nat} (ht:t*v1+r=u0*1000000000+u1) (hb:1000000000<=t):r<1000000000:=by
 have h1:=h.top;have h2:=h.Kb;have h3:=Nat.mul_le_mul_right v1 hb
 grind
end
def avp {r u:Nat} (hr:r<1000000000) (hu:u<1000000000):r*1000000000<9223372036854775808/\r*1000000000+u<9223372036854775808:=by omega
section
variable {P:aK} {L:Lib}
def apo {w:AV} {x vs pre post qs:List Int} {f:Int} (hw:bq w vs) {n v1 v2 u0 u1 u2 M:Nat} (hl:fS x vs n v1 v2 u0 u1 u2) (hM:M=pre.length+x.length+post.length) (Ks:M<=50000000000):
  ∀k s,(∃t r:Nat,bH [0,1,2,7,9,10] s=⟨[(0,.ak 1 0 M),(1,w),(2,aa pre.length),(7,aa n),(9,aa t),(10,aa r)],H3 qs (pre++x++post) f,3,3⟩/\t*v1+r=u0*1000000000+u1/\r<1000000000/\dv x/dv vs<=t/\t=k)->
   ∃ex s',D P L (.loop [0,1,2,7,9,10] AS) s=some (ex,s')/\∃tm ct t,s'=⟨tm,H3 qs (pre++x++post) f,ct,3⟩/\((ex= .exit 0/\af tm 9=aa (t:Nat))\/(ex= .ret/\af tm 6=aa (t:Nat)))/\ct=3/\t<1000000000/\dv x/dv vs<=t/\t<=dv x/dv vs+1:=by
 refine cC (I:=fun k s=>∃t r:Nat,s=⟨[(0,.ak 1 0 M),(1,w),(2,aa pre.length),(7,aa n),(9,aa t),(10,aa r)],H3 qs (pre++x++post) f,3,3⟩/\t*v1+r=u0*1000000000+u1/\r<1000000000/\dv x/dv vs<=t/\t=k)
  (Q:=fun ex s'=>∃tm ct t,s'=⟨tm,H3 qs (pre++x++post) f,ct,3⟩/\((ex= .exit 0/\af tm 9=aa (t:Nat))\/(ex= .ret/\af tm 6=aa (t:Nat)))/\ct=3/\t<1000000000/\dv x/dv vs<=t/\t<=dv x/dv vs+1) ?_
 rintro k s ⟨t,r,rfl,ht,hr,hQ,rfl⟩;have ew:=hl.n2;have pv:=hl.nb;have hlx:=hl.lx;have E2:=hl.Ka;have Td:=hl.Dm;have afi:=hl.Kc;have avq:=hl.Vr;have NL:=hl.Kb;have Bt:=hl.pos;have pz:=pU hw (i:=n-2) (by have:=hl.lv;omega);have eT:=pU hw (i:=n-1) (by have:=hl.lv;omega);rw [hl.cZ] at pz;rw [hl.er] at eT;have sr:=rn (l:=pre++x++post) (o:=pre.length+(n-2)) (by rw [nE];omega);rw [AW (by omega),hl.h2] at sr;have Ak:(n:Int)-2=((n-2:Nat):Int):=by omega
 have pC:(n:Int)-1=((n-1:Nat):Int):=by omega
 have Kt:(pre.length:Int)+(n:Int)=((pre.length+n:Nat):Int):=rfl;have V9:((pre.length+n:Nat):Int)-2=((pre.length+(n-2):Nat):Int):=by omega
 have azw:t<=1000000000000000000:=by
  have:=yS t Bt
  omega
 have azx:t*1<=t*v1:=yS t Bt;obtain ⟨Wa,Wb⟩:=avp hr afi;by_cases so:1000000000<=t\/r*1000000000+u2<t*v2
 ·have Wc:0<t:=by
   rcases xr t with h0 | h0
   ·subst h0;omega
   ·exact h0
  have h1:(t-1)*v1+(r+v1)=u0*1000000000+u1:=by
   obtain ⟨p,rfl⟩:∃p,t=p+1:=⟨t-1,by omega⟩;rw [wG,Nat.one_mul] at ht;rw [Nat.add_sub_cancel];omega
  have n8:dv x/dv vs<=t-1:=by
   rcases so with h | h
   ·have:=hl.digit;generalize dv x/dv vs=q at*;omega
   ·exact hl.down ht h
  have Pm:((t:Nat):Int)-1=((t-1:Nat):Int):=by omega
  have stop:1000000000<=r+v1->t-1<1000000000/\t-1<=dv x/dv vs+1:=fun hb=>by
   have bi:t-1<1000000000:=by
    by_cases rT:1000000000<=t-1
    ·have:=hl.small h1 rT;omega
    ·omega
   exact ⟨bi,hl.stop bi h1 (.inl hb)⟩
  by_cases hb:1000000000<=t
  ·by_cases fh:1000000000<=r+v1
   ·right
    obtain ⟨s1,s2⟩:=stop fh
    simp only [go_sem,ya,AS,H3,show (1000000000:Int)<=(t:Int) by omega,Pm,wrapN (n:=t-1) (by omega),pC,wrapN (n:=n-1) (by omega),eT,show (r:Int)+(v1:Int)=((r+v1:Nat):Int) from rfl,wrapN (n:=r+v1) (by omega),show (1000000000:Int)<=((r+v1:Nat):Int) by omega];exact ⟨_,_,rfl,by simp,_,_,t-1,rfl,.inr ⟨rfl,by simp only [go_sem]⟩,rfl,s1,n8,s2⟩
   ·left
    simp only [go_sem,ya,AS,H3,show (1000000000:Int)<=(t:Int) by omega,Pm,wrapN (n:=t-1) (by omega),pC,wrapN (n:=n-1) (by omega),eT,show (r:Int)+(v1:Int)=((r+v1:Nat):Int) from rfl,wrapN (n:=r+v1) (by omega),show ¬(1000000000:Int)<=((r+v1:Nat):Int) by omega];refine ⟨_,t-1,rfl,by omega,t-1,r+v1,?_,h1,by omega,n8,rfl⟩;rw [Lz (by simp only [go_sem,ya,yy,mf,mQ,ma,lZ,lV hw.pu,wF]) (by simp only [go_sem,ya,yb,yy,aM hw.pu])];simp only [go_sem,ya]
  ·have qu:=vd (show t<=999999999 by omega) (show v2<=999999999 by omega);have TK:r*1000000000+u2<t*v2:=so.resolve_left hb;obtain ⟨m,hm⟩:∃m,t*v2=m:=⟨_,rfl⟩;have em:(t:Int)*(v2:Int)=(m:Int):=by rw [<-hm,vh]
   rw [hm] at TK qu;have FF:(r:Int)*1000000000=((r*1000000000:Nat):Int):=by omega
   have BP:((r*1000000000:Nat):Int)+(u2:Int)=((r*1000000000+u2:Nat):Int):=rfl;by_cases fh:1000000000<=r+v1
   ·right
    obtain ⟨s1,s2⟩:=stop fh
    simp only [go_sem,ya,yi,AS,H3,show ¬(1000000000:Int)<=(t:Int) by omega,Ak,wrapN (n:=n-2) (by omega),pz,em,wrapN (n:=m) (by omega),FF,wrapN Wa,Kt,wrapN (n:=pre.length+n) (by omega),V9,wrapN (n:=pre.length+(n-2)) (by omega),dd 1 0 (show pre.length+(n-2)<M by omega),yd,sr,BP,wrapN Wb,show ((r*1000000000+u2:Nat):Int)<(m:Int) from uB.2 TK,Pm,wrapN (n:=t-1) (by omega),pC,wrapN (n:=n-1) (by omega),eT,show (r:Int)+(v1:Int)=((r+v1:Nat):Int) from rfl,wrapN (n:=r+v1) (by omega),show (1000000000:Int)<=((r+v1:Nat):Int) by omega];exact ⟨_,_,rfl,by simp,_,_,t-1,rfl,.inr ⟨rfl,by simp only [go_sem]⟩,rfl,s1,n8,s2⟩
   ·left
    simp only [go_sem,ya,yi,AS,H3,show ¬(1000000000:Int)<=(t:Int) by omega,Ak,wrapN (n:=n-2) (by omega),pz,em,wrapN (n:=m) (by omega),FF,wrapN Wa,Kt,wrapN (n:=pre.length+n) (by omega),V9,wrapN (n:=pre.length+(n-2)) (by omega),dd 1 0 (show pre.length+(n-2)<M by omega),yd,sr,BP,wrapN Wb,show ((r*1000000000+u2:Nat):Int)<(m:Int) from uB.2 TK,Pm,wrapN (n:=t-1) (by omega),pC,wrapN (n:=n-1) (by omega),eT,show (r:Int)+(v1:Int)=((r+v1:Nat):Int) from rfl,wrapN (n:=r+v1) (by omega),show ¬(1000000000:Int)<=((r+v1:Nat):Int) by omega];refine ⟨_,t-1,rfl,by omega,t-1,r+v1,?_,h1,by omega,n8,rfl⟩;rw [Lz (by simp only [go_sem,ya,yy,mf,mQ,ma,lZ,lV hw.pu,wF]) (by simp only [go_sem,ya,yb,yy,aM hw.pu])];simp only [go_sem,ya]
 ·right
  have ki:t<1000000000:=Nat.lt_of_not_le fun e=>so (.inl e)
  have qu:=vd (show t<=999999999 from uW ki) (show v2<=999999999 from uW Td);have TL:t*v2<=r*1000000000+u2:=Nat.le_of_not_lt fun e=>so (.inr e)
  have atu:=hl.stop ki ht (.inr TL);obtain ⟨m,hm⟩:∃m,t*v2=m:=⟨_,rfl⟩;have em:(t:Int)*(v2:Int)=(m:Int):=by rw [<-hm,vh]
  rw [hm] at TL qu;have FF:(r:Int)*1000000000=((r*1000000000:Nat):Int):=by omega
  have BP:((r*1000000000:Nat):Int)+(u2:Int)=((r*1000000000+u2:Nat):Int):=rfl
  simp only [go_sem,ya,yi,AS,H3,show ¬(1000000000:Int)<=(t:Int) by omega,Ak,wrapN (n:=n-2) (by omega),pz,em,wrapN (n:=m) (by omega),FF,wrapN Wa,Kt,wrapN (n:=pre.length+n) (by omega),V9,wrapN (n:=pre.length+(n-2)) (by omega),dd 1 0 (show pre.length+(n-2)<M by omega),yd,sr,BP,wrapN Wb,show ¬((r*1000000000+u2:Nat):Int)<(m:Int) from fun e=>Nat.not_lt_of_le TL (uB.1 e)];exact ⟨_,_,rfl,by simp,_,_,t,rfl,.inl ⟨rfl,by simp only [go_sem,ya]⟩,rfl,ki,hQ,atu⟩
def atv (h:Has P L 301 zB) {w:AV} {x vs pre post qs:List Int} {f:Int} (hw:bq w vs) {n v1 v2 u0 u1 u2 M:Nat} (hl:fS x vs n v1 v2 u0 u1 u2) (hM:M=pre.length+x.length+post.length) (Ks:M<=50000000000):
  ∃t:Nat,ik P L (D P L) (H3 qs (pre++x++post) f) 3 301 [.ak 1 0 M,w,aa pre.length]=some (aa t,H3 qs (pre++x++post) f,3)/\t<1000000000/\dv x/dv vs<=t/\t<=dv x/dv vs+1:=by
 have ew:=hl.n2;have pv:=hl.nb;have hlx:=hl.lx;have ss:below 3 w:=lV hw.pu;have E2:=hl.Ka;have avq:=hl.Vr;have NL:=hl.Kb;have Bt:=hl.pos;have eT:=pU hw (i:=n-1) (by have:=hl.lv;omega);rw [hl.er] at eT;have BR:=rn (l:=pre++x++post) (o:=pre.length+n) (by rw [nE];omega);rw [AW (by omega),hl.h0] at BR;have BS:=rn (l:=pre++x++post) (o:=pre.length+(n-1)) (by rw [nE];omega);rw [AW (by omega),hl.h1] at BS;have pC:(n:Int)-1=((n-1:Nat):Int):=by omega
 have Kt:(pre.length:Int)+(n:Int)=((pre.length+n:Nat):Int):=rfl;have pn1:((pre.length+n:Nat):Int)-1=((pre.length+(n-1):Nat):Int):=by omega
 obtain ⟨m,hm⟩:∃m,m=u0*1000000000+u1:=⟨_,rfl⟩;have em:(u0:Int)*1000000000=((u0*1000000000:Nat):Int):=by omega
 have em2:((u0*1000000000:Nat):Int)+(u1:Int)=(m:Int):=by omega
 have fL:=wB m v1;have p9:=xC m Bt;have Mj:=hl.first;rw [<-hm] at Mj;have azL:m/v1<=m:=Nat.div_le_self _ _;have oq:IntKind.wrap .i64 ((m:Int).tdiv (v1:Int))=((m/v1:Nat):Int):=by
  rw [xK (by omega),<-Int.natCast_ediv,wrapN (by omega)]
 have or':(m:Int).tmod (v1:Int)=((m%v1:Nat):Int):=by rw [xm (by omega),<-Int.natCast_emod]
 rw [xN] at fL;generalize m/v1=q0 at*
 generalize m%v1=r0 at*
 have iL:∃ex tm t,D P L zB.body ⟨fp 0 [.ak 1 0 M,w,aa pre.length],H3 qs (pre++x++post) f,3,3⟩=some (ex,⟨tm,H3 qs (pre++x++post) f,3,3⟩)/\(ex= .normal\/ex= .ret)/\af tm 6=aa (t:Nat)/\t<1000000000/\dv x/dv vs<=t/\t<=dv x/dv vs+1:=by
  simp only [go_sem,ya,yi,zB,H3,hw.len,hl.lv,Kt,wrapN (n:=pre.length+n) (by omega),dd 1 0 (show pre.length+n<M by omega),yd,BR,em,wrapN (n:=u0*1000000000) (by omega),pn1,wrapN (n:=pre.length+(n-1)) (by omega),dd 1 0 (show pre.length+(n-1)<M by omega),BS,em2,wrapN (n:=m) (by omega),pC,wrapN (n:=n-1) (by omega),eT,fq _ _ _ (show (v1:Int)≠0 by omega),eD _ _ _ (show (v1:Int)≠0 by omega),oq,or'];generalize mI:D P L (.loop [0,1,2,7,9,10] AS) _=qq;obtain ⟨ex,s,rfl,tm,ct,t,rfl,rE,rfl,g1,g2,g3⟩:=cd mI (apo (P:=P) (L:=L) (qs:=qs) (f:=f) hw hl hM Ks q0) ⟨q0,r0,by
   rw [Lz (by simp only [go_sem,ya,yy,mf,mQ,ma,lZ,ss,wF]) (by simp only [go_sem,ya,yb,yy,aM hw.pu])]
   simp only [go_sem,ya],by omega,by omega,Mj,rfl⟩
  rcases rE with ⟨rfl,h9⟩ | ⟨rfl,h6⟩
  ·simp only [go_sem,yy,H3,Lz,mf,ma,lZ,h9,and_self];exact ⟨_,_,t,rfl,.inr rfl,by simp only [go_sem],g1,g2,g3⟩
  ·simp only [go_sem];exact ⟨_,_,t,rfl,.inr rfl,h6,g1,g2,g3⟩
 obtain ⟨ex,tm,t,g1,g2,g3,g4,g5,g6⟩:=iL;exact ⟨t,D1 h g1 g2 (by show gh _ [RV.t 6]=_;rw [EZ,EB,g3]),g4,g5,g6⟩
end
end
end VE
