import Derived.Test.YtmedhadbdofioaaGreatDoorTat
import Derived.Test.YtmedhadbdofioaaGreatDoorTas
set_option linter.all false
set_option maxRecDepth 100000
open Bool renaming false_eq_true→yD,not_false→yF
open Int renaming mul_add→ybn,natCast_mul→wE,neg_neg→yaV,ofNat_lt→uo,pow_succ→yar,tdiv_eq_ediv_of_nonneg→xK,tmod_eq_emod_of_nonneg→xn,toNat_natCast→xI,toNat_of_nonneg→tO
open List renaming drop→xm,drop_eq_getElem_cons→yL,drop_eq_nil_of_le→y8,eq_nil_of_length_eq_zero→yJ,getD_eq_getElem?_getD→y9,getElem?_eq_getElem→xz,length_cons→yr,length_map→xu,length_nil→yE,length_take→yT,map_append→xC,map_cons→yU,replicate→yz,take_length→wo,take_of_length_le→yM
open Nat renaming add_mul→wj,add_zero→yX,div_add_mod→wq,div_lt_iff_lt_mul→wz,eq_zero_or_pos→xo,le_of_lt_succ→uQ,le_refl→yC,le_trans→xj,lt_of_lt_of_le→yN,min_eq_left→wu,mod_lt→xy,mul_add→xt,mul_assoc→xk,mul_comm→xE,mul_le_mul→wU,mul_le_mul_left→yS,mul_le_mul_right→yW,mul_one→yh,mul_zero→xF,pow_add→wC,pow_le_pow_right→xP,pow_succ→xg,reduceAdd→yb,reduceEqDiff→ya,reduceLT→yt,reduceLeDiff→ye,reduceMul→xQ,zero_add→yd
namespace VE
section
open Go (IntKind)
def alP (p s:Nat):p*(s%1000000000)+p*1000000000*(s/1000000000)=p*s:=by
 rw [xk,<-xt,Nat.mod_add_div]
def H9 {l:List Int} {i:Nat} (h:l.length<=i):l.getD i 0=0:=by
 simp [y9,List.getElem?_eq_none h]
def an6 {a b out:List Int} {i c:Nat} {x y:Int} (hx:x=a.getD i 0) (hy:y=b.getD i 0) (h1:0<=x) (h2:0<=y) (hl:out.length=i) (hv:dv out+1000000000^i*c=dv (a.take i)+dv (b.take i)):
  dv (out++[(((x.toNat+y.toNat+c)%1000000000:Nat):Int)])+1000000000^(i+1)*((x.toNat+y.toNat+c)/1000000000)=dv (a.take (i+1))+dv (b.take (i+1)):=by
 rw [oG,oG,mh,hl,<-hx,<-hy];simp only [dv,xI,xF,yX,xg]
 have:=alP (1000000000^i) (x.toNat+y.toNat+c)
 rw [xt,xt] at this;omega
section
variable {P:aG} {L:Lib}
def asR (mK:Has P L 302 rN) {v w:AV} {a b:List Int} (hv:br v a) (hw:br w b) (ha:dg a) (hb:dg b) {N:Nat} (la:a.length<=N) (lb:b.length<=N) (lN:N<=20000000000):
  ∀k s,(∃(i c:Nat) (out:List Int),2*(N-i)+c=k/\out.length=i/\c<=1/\dg out/\dv out+1000000000^i*c=dv (a.take i)+dv (b.take i)/\i<=N+1/\(i<=N\/c=0)/\
    ((i=0/\bD [0,1,5,6,7] s=⟨[(0,v),(1,w),(5,.ab),(6,aa c),(7,aa i)],[],0,0⟩)\/
    (0<i/\bD [0,1,5,6,7] s=⟨[(0,v),(1,w),(5,.an 0 0 i),(6,aa c),(7,aa i)],[(0,.cells true true false 1 (out.map aa))],1,0⟩)))->
   ∃ex s',D P L (.loop [0,1,5,6,7] oN) s=some (ex,s')/\∃tm out,ex= .exit 0/\dg out/\dv out=dv a+dv b/\out.length<=N+1/\((out=[]/\af tm 5= .ab/\s'=⟨tm,[],0,0⟩)\/(0<out.length/\af tm 5= .an 0 0 out.length/\s'=⟨tm,[(0,.cells true true false 1 (out.map aa))],1,0⟩)):=by
 refine cg (I:=fun k s=>∃(i c:Nat) (out:List Int),2*(N-i)+c=k/\out.length=i/\c<=1/\dg out/\dv out+1000000000^i*c=dv (a.take i)+dv (b.take i)/\i<=N+1/\(i<=N\/c=0)/\
    ((i=0/\s=⟨[(0,v),(1,w),(5,.ab),(6,aa c),(7,aa i)],[],0,0⟩)\/
    (0<i/\s=⟨[(0,v),(1,w),(5,.an 0 0 i),(6,aa c),(7,aa i)],[(0,.cells true true false 1 (out.map aa))],1,0⟩)))
  (Q:=fun ex s'=>∃tm out,ex= .exit 0/\dg out/\dv out=dv a+dv b/\out.length<=N+1/\((out=[]/\af tm 5= .ab/\s'=⟨tm,[],0,0⟩)\/(0<out.length/\af tm 5= .an 0 0 out.length/\s'=⟨tm,[(0,.cells true true false 1 (out.map aa))],1,0⟩))) ?_
 rintro k s ⟨i,c,out,hk,hlen,hc,nt,aQ,hi,FI,hs⟩;have e1:=Uw mK hv i;have e2:=Uw mK hw i;unfold ae at e1 e2;have ga:=iv ha i;have gb:=iv hb i;by_cases sF:i<a.length\/i<b.length\/0<c
 ·left
  obtain ⟨x,hx⟩:∃x,x=a.getD i 0:=⟨_,rfl⟩;obtain ⟨y,hy⟩:∃y,y=b.getD i 0:=⟨_,rfl⟩;rw [<-hx] at e1 ga;rw [<-hy] at e2 gb;have kT:=an6 (c:=c) hx hy ga.1 gb.1 hlen aQ;obtain ⟨s0,ji⟩:∃s0,s0=x.toNat+y.toNat+c:=⟨_,rfl⟩;rw [<-ji] at kT;have BD:x+y+(c:Int)=(s0:Int):=by omega
  have hs9:s0<2000000000:=by omega
  have hr:((s0:Nat):Int).tmod 1000000000=((s0%1000000000:Nat):Int):=by rw [xn (by omega)];rfl
  have hq:((s0:Nat):Int).tdiv 1000000000=((s0/1000000000:Nat):Int):=by rw [xK (by omega)];rfl
  have ma:s0/1000000000<=1:=by omega
  have auz:2*(N-(i+1))+s0/1000000000<k:=by
   by_cases hm:i<N
   ·omega
   ·have:c=1:=by omega
    have At:x=0:=by rw [hx];exact H9 (by omega)
    have iV:y=0:=by rw [hy];exact H9 (by omega)
    subst At;subst iV
    have:s0=1:=by rw [ji,this];rfl
    subst this;omega
  have qD:dg (out++[((s0%1000000000:Nat):Int)]):=hJ.2 ⟨nt,jF.2 (by omega)⟩;have To:(out++[((s0%1000000000:Nat):Int)]).length=i+1:=by simp [hlen]
  have awl:i+1<=N\/s0/1000000000=0:=by
   by_cases hm:i<N
   ·exact .inl hm
   ·right
    have:c=1:=by omega
    have At:x=0:=by rw [hx];exact H9 (by omega)
    have iV:y=0:=by rw [hy];exact H9 (by omega)
    subst At;subst iV
    have:s0=1:=by rw [ji,this];rfl
    subst this;rfl
  have fin:∃s',D P L oN s=some (.normal,s')/\bD [0,1,5,6,7] s'=⟨[(0,v),(1,w),(5,.an 0 0 (i+1)),(6,aa (s0/1000000000:Nat)),(7,aa (i+1:Nat))],[(0,.cells true true false 1 ((out++[((s0%1000000000:Nat):Int)]).map aa))],1,0⟩:=by
   have three:((i:Int)<a.length)\/(¬(i:Int)<a.length/\(i:Int)<b.length)\/(¬(i:Int)<a.length/\¬(i:Int)<b.length/\(0:Int)<c):=by omega
   rcases three with t1 | ⟨t1,t2⟩ | ⟨t1,t2,t3⟩
   ·rcases hs with ⟨h0,rfl⟩ | ⟨h0,rfl⟩
    ·subst h0;have jf:out=[]:=yJ hlen;subst jf
     simp only [go_sem,ya,yb,xQ,yt,ye,yh,oN,hv.len,hv.ah,hw.ah,t1,e1,e2,wrap64 (n:=x+y) (by omega) (by omega),BD,wrap64 (n:=(s0:Int)) (by omega) (by omega),er _ _ _ (show (1000000000:Int)≠0 by decide),eU _ _ _ (show (1000000000:Int)≠0 by decide),hr,hq,wrap64 (n:=((s0/1000000000:Nat):Int)) (by omega) (by omega),kL];refine ⟨_,rfl,?_⟩;rw [wrap64 (by omega) (by omega)];simp only [go_sem,ya,yb,ay,aJ hv.pu,aO _ hv.pu,aJ hw.pu,aO _ hw.pu]<;>rfl
    ·simp only [go_sem,ya,yb,ye,yh,oN,hv.len,hv.ah,hw.ah,t1,e1,e2,wrap64 (n:=x+y) (by omega) (by omega),BD,wrap64 (n:=(s0:Int)) (by omega) (by omega),er _ _ _ (show (1000000000:Int)≠0 by decide),hr]
     rw [ki (ex:=false) (pu:=true) (cs:=out.map aa) (by simp only [go_sem,ya]) (by rw [xu,hlen,yh]) (by omega) (by omega) (by decide) (by simp only [go_sem])]
     simp only [go_sem,ya,yb,eU _ _ _ (show (1000000000:Int)≠0 by decide),hq,wrap64 (n:=((s0/1000000000:Nat):Int)) (by omega) (by omega)];refine ⟨_,rfl,?_⟩;rw [wrap64 (by omega) (by omega),xC];simp only [go_sem,ya,yb,ay,aJ hv.pu,aO _ hv.pu,aJ hw.pu,aO _ hw.pu]<;>rfl
   ·rcases hs with ⟨h0,rfl⟩ | ⟨h0,rfl⟩
    ·subst h0;have jf:out=[]:=yJ hlen;subst jf
     simp only [go_sem,ya,yb,xQ,yt,ye,yh,oN,hv.len,hv.ah,hw.len,hw.ah,t1,t2,e1,e2,wrap64 (n:=x+y) (by omega) (by omega),BD,wrap64 (n:=(s0:Int)) (by omega) (by omega),er _ _ _ (show (1000000000:Int)≠0 by decide),eU _ _ _ (show (1000000000:Int)≠0 by decide),hr,hq,wrap64 (n:=((s0/1000000000:Nat):Int)) (by omega) (by omega),kL];refine ⟨_,rfl,?_⟩;rw [wrap64 (by omega) (by omega)];simp only [go_sem,ya,yb,ay,aJ hv.pu,aO _ hv.pu,aJ hw.pu,aO _ hw.pu]<;>rfl
    ·simp only [go_sem,ya,yb,ye,yh,oN,hv.len,hv.ah,hw.len,hw.ah,t1,t2,e1,e2,wrap64 (n:=x+y) (by omega) (by omega),BD,wrap64 (n:=(s0:Int)) (by omega) (by omega),er _ _ _ (show (1000000000:Int)≠0 by decide),hr]
     rw [ki (ex:=false) (pu:=true) (cs:=out.map aa) (by simp only [go_sem,ya]) (by rw [xu,hlen,yh]) (by omega) (by omega) (by decide) (by simp only [go_sem])]
     simp only [go_sem,ya,yb,eU _ _ _ (show (1000000000:Int)≠0 by decide),hq,wrap64 (n:=((s0/1000000000:Nat):Int)) (by omega) (by omega)];refine ⟨_,rfl,?_⟩;rw [wrap64 (by omega) (by omega),xC];simp only [go_sem,ya,yb,ay,aJ hv.pu,aO _ hv.pu,aJ hw.pu,aO _ hw.pu]<;>rfl
   ·rcases hs with ⟨h0,rfl⟩ | ⟨h0,rfl⟩
    ·subst h0;have jf:out=[]:=yJ hlen;subst jf
     simp only [go_sem,ya,yb,xQ,yt,ye,yh,oN,hv.len,hv.ah,hw.len,hw.ah,t1,t2,t3,e1,e2,wrap64 (n:=x+y) (by omega) (by omega),BD,wrap64 (n:=(s0:Int)) (by omega) (by omega),er _ _ _ (show (1000000000:Int)≠0 by decide),eU _ _ _ (show (1000000000:Int)≠0 by decide),hr,hq,wrap64 (n:=((s0/1000000000:Nat):Int)) (by omega) (by omega),kL];refine ⟨_,rfl,?_⟩;rw [wrap64 (by omega) (by omega)];simp only [go_sem,ya,yb,ay,aJ hv.pu,aO _ hv.pu,aJ hw.pu,aO _ hw.pu]<;>rfl
    ·simp only [go_sem,ya,yb,ye,yh,oN,hv.len,hv.ah,hw.len,hw.ah,t1,t2,t3,e1,e2,wrap64 (n:=x+y) (by omega) (by omega),BD,wrap64 (n:=(s0:Int)) (by omega) (by omega),er _ _ _ (show (1000000000:Int)≠0 by decide),hr]
     rw [ki (ex:=false) (pu:=true) (cs:=out.map aa) (by simp only [go_sem,ya]) (by rw [xu,hlen,yh]) (by omega) (by omega) (by decide) (by simp only [go_sem])]
     simp only [go_sem,ya,yb,eU _ _ _ (show (1000000000:Int)≠0 by decide),hq,wrap64 (n:=((s0/1000000000:Nat):Int)) (by omega) (by omega)];refine ⟨_,rfl,?_⟩;rw [wrap64 (by omega) (by omega),xC];simp only [go_sem,ya,yb,ay,aJ hv.pu,aO _ hv.pu,aJ hw.pu,aO _ hw.pu]<;>rfl
  obtain ⟨s',f1,f2⟩:=fin;exact ⟨s',_,f1,auz,i+1,s0/1000000000,_,rfl,To,ma,qD,kT,by omega,awl,.inr ⟨by omega,f2⟩⟩
 ·right
  have lD:c=0:=by omega
  subst lD;rw [xF,yX,yM (by omega),yM (by omega)] at aQ;rcases hs with ⟨h0,rfl⟩ | ⟨h0,rfl⟩
  ·simp only [go_sem,ya,oN,hv.len,hw.len,show ¬(i:Int)<a.length by omega,show ¬(i:Int)<b.length by omega,show ¬(0:Int)<((0:Nat):Int) by omega];exact ⟨_,_,rfl,by simp,_,out,rfl,nt,aQ,by omega,.inl ⟨yJ (by omega),by simp only [go_sem,ya],rfl⟩⟩
  ·simp only [go_sem,ya,oN,hv.len,hw.len,show ¬(i:Int)<a.length by omega,show ¬(i:Int)<b.length by omega,show ¬(0:Int)<((0:Nat):Int) by omega];exact ⟨_,_,rfl,by simp,_,out,rfl,nt,aQ,by omega,.inr ⟨by omega,by rw [hlen];simp only [go_sem,ya],rfl⟩⟩
def agj (h:Has P L 295 JE) (mK:Has P L 302 rN) {v w:AV} {a b:List Int} (hv:br v a) (hw:br w b) (ha:dg a) (hb:dg b) (la:a.length<=20000000000) (lb:b.length<=20000000000):
  ∃r out,ae P L 295 [v,w] r/\br (shut r) out/\dg out/\dv out=dv a+dv b/\out.length<=max a.length b.length+1:=by
 have je:∃out,ae P L 295 [v,w] (if out=[] then .ab else .cJ false 1 out.length (out.map aa))/\dg out/\dv out=dv a+dv b/\out.length<=max a.length b.length+1:=by
  unfold ae;rw [av h];simp only [go_sem,JE];generalize hq:D P L (.loop [0,1,5,6,7] oN) _=q;obtain ⟨ex,s,rfl,tm,out,rfl,hd,aQ,hl,hs⟩:=bP hq (asR (P:=P) (L:=L) mK hv hw ha hb (N:=max a.length b.length) (by omega) (by omega) (by omega) (2*(max a.length b.length))) ⟨0,0,[],by omega,rfl,by omega,rfl,by simp [dv],by omega,.inr rfl,.inl ⟨rfl,by simp only [go_sem,ya,ay,aJ hv.pu,aO _ hv.pu,aJ hw.pu,aO _ hw.pu]<;>rfl⟩⟩
  refine ⟨out,?_,hd,aQ,hl⟩;rcases hs with ⟨h0,h5,rfl⟩ | ⟨h0,h5,rfl⟩
  ·rw [yI h0];simp only [go_sem,ay,h5]
  ·rw [yB (by intro e;subst e;simp at h0)];simp only [go_sem,yb,ay,h5];exact QV (H4 _ _ _) (by simp) (by decide)
 obtain ⟨out,g1,g2,g3,g4⟩:=je;refine ⟨_,out,g1,?_,g2,g3,g4⟩
 split
 ·rename_i e;subst e;exact pZ
 ·exact fm false out
end
end
section
open Go (IntKind)
section
variable {P:aG} {L:Lib}
def UW (h:Has P L 296 rM) {v w:AV} {a b:List Int} (hv:br v a) (hw:br w b) (ha:dg a) (hb:dg b) (na:nz a) (nb:nz b) (la:a.length<=20000000000) (lb:b.length<=20000000000):
  ae P L 296 [v,w] (aa (eb (dv a) (dv b))):=by
 unfold ae;rw [av h];by_cases hlen:a.length=b.length
 ·have key:=cg (P:=P) (L:=L) (live:=[0,1,5]) (a:=CG)
   (I:=fun k st=>∃j:Nat,st=⟨[(0,v),(1,w),(5,aa ((j:Int)-1))],[],0,0⟩/\j<=a.length/\j=k/\a.drop j=b.drop j)
   (Q:=fun ex st=>∃tm ct,st=⟨tm,[],ct,0⟩/\((ex= .ret/\af tm 4=aa (eb (dv a) (dv b)))\/(ex= .exit 0/\a=b))) ?_
  ·simp only [go_sem,ya,rM,hv.len,hw.len,show (a.length:Int)=b.length by omega];generalize hq:D P L (.loop [0,1,5] CG) _=q;obtain ⟨ex,st,rfl,tm,ct,rfl,h2⟩:=bP hq (key a.length) ⟨a.length,by
    rw [wrap64 (by omega) (by omega)];rw [hlen]
    simp only [go_sem,ya,ay,aJ hv.pu,aO _ hv.pu,aJ hw.pu,aO _ hw.pu]<;>rfl,yC _,rfl,by rw [y8 (yC _),y8 (by omega)]⟩
   rcases h2 with ⟨rfl,h2⟩ | ⟨rfl,h2⟩
   ·simp only [go_sem,h2]
   ·simp only [go_sem,ay];subst h2;simp [eb]
  ·rintro k st ⟨j,rfl,hj,rfl,he⟩
   cases j with
   | zero=>
    right
    simp only [go_sem,ya,CG,show ¬(0:Int)<=((0:Nat):Int)-1 by omega];exact ⟨_,_,rfl,by simp,_,_,rfl,.inr ⟨rfl,by simpa using he⟩⟩
   | succ i=>
    have h1:i<a.length:=by omega
    have h2:i<b.length:=by omega
    have FM:=abJ ha hb h1 h2 he;have bi:=abJ hb ha h2 h1 he.symm;by_cases c1:a[i]<b[i]
    ·right
     simp only [go_sem,ya,CG,show ((i+1:Nat):Int)-1=(i:Int) by omega,show (0:Int)<=(i:Int) by omega,hv.bk h1,hw.bk h2,c1];refine ⟨_,_,rfl,by simp,_,_,rfl,.inl ⟨rfl,?_⟩⟩;simp only [go_sem];unfold eb;rw [yI (FM c1)]
    ·by_cases c2:b[i]<a[i]
     ·right
      simp only [go_sem,ya,CG,show ((i+1:Nat):Int)-1=(i:Int) by omega,show (0:Int)<=(i:Int) by omega,hv.bk h1,hw.bk h2,c1,c2];refine ⟨_,_,rfl,by simp,_,_,rfl,.inl ⟨rfl,?_⟩⟩;simp only [go_sem]
      have:=bi c2
      unfold eb;rw [yB (by omega),yI (by omega)]
     ·left
      simp only [go_sem,ya,CG,show ((i+1:Nat):Int)-1=(i:Int) by omega,show (0:Int)<=(i:Int) by omega,hv.bk h1,hw.bk h2,c1,c2];refine ⟨_,i,rfl,by omega,i,?_,by omega,rfl,?_⟩
      ·rw [wrap64 (by omega) (by omega)];simp only [go_sem,ya,ay,aJ hv.pu,aO _ hv.pu,aJ hw.pu,aO _ hw.pu]<;>rfl
      ·rw [yL h1,yL h2,he,show a[i]=b[i] by omega]
 ·by_cases c1:a.length<b.length
  ·have:=SI ha nb hb c1
   simp only [go_sem,ya,rM,hv.len,hw.len,show ¬(a.length:Int)=b.length by omega,show (a.length:Int)<b.length by omega];unfold eb;rw [yI this]
  ·have:=SI hb na ha (show b.length<a.length by omega)
   simp only [go_sem,ya,rM,hv.len,hw.len,show ¬(a.length:Int)=b.length by omega,show ¬(a.length:Int)<b.length by omega];unfold eb;rw [yB (by omega),yI this]
def an7 {a b out:List Int} {i c:Nat} {x y z:Int} {c':Nat} (hx:x=a.getD i 0) (hy:y=b.getD i 0) (h1:0<=x) (h2:0<=y) (h3:0<=z) (hz:z=x-y-c+1000000000*c') (hl:out.length=i) (hv:dv out+dv (b.take i)=dv (a.take i)+1000000000^i*c):
  dv (out++[z])+dv (b.take (i+1))=dv (a.take (i+1))+1000000000^(i+1)*c':=by
 rw [oG,oG,mh,hl,<-hx,<-hy];simp only [dv,xF,yX,xg];have e:z.toNat+y.toNat+c=x.toNat+1000000000*c':=by omega
 have:=congrArg (fun q=>1000000000^i*q) e
 simp only [xt] at this;rw [xk (1000000000^i) 1000000000 c'];omega
end
end
section
open Go (IntKind)
section
variable {P:aG} {L:Lib}
def asS (mK:Has P L 302 rN) {v w:AV} {a b:List Int} (hv:br v a) (hw:br w b) (ha:dg a) (hb:dg b) (la:a.length<=20000000000) (hle:dv b<=dv a) (pQ:b.length<=a.length):
  ∀k s,(∃(i c:Nat) (out:List Int),i+k=a.length/\out.length=i/\c<=1/\dg out/\dv out+dv (b.take i)=dv (a.take i)+1000000000^i*c/\
    ((i=0/\bD [0,1,5,6,7] s=⟨[(0,v),(1,w),(5,.ab),(6,aa c),(7,aa i)],[],0,0⟩)\/
    (0<i/\bD [0,1,5,6,7] s=⟨[(0,v),(1,w),(5,.an 0 0 i),(6,aa c),(7,aa i)],[(0,.cells true true false 1 (out.map aa))],1,0⟩)))->
   ∃ex s',D P L (.loop [0,1,5,6,7] rz) s=some (ex,s')/\∃tm out,ex= .exit 0/\dg out/\dv out+dv b=dv a/\out.length<=20000000000/\((out=[]/\af tm 5= .ab/\s'=⟨tm,[],0,0⟩)\/(0<out.length/\af tm 5= .an 0 0 out.length/\s'=⟨tm,[(0,.cells true true false 1 (out.map aa))],1,0⟩)):=by
 refine cg (I:=fun k s=>∃(i c:Nat) (out:List Int),i+k=a.length/\out.length=i/\c<=1/\dg out/\dv out+dv (b.take i)=dv (a.take i)+1000000000^i*c/\
    ((i=0/\s=⟨[(0,v),(1,w),(5,.ab),(6,aa c),(7,aa i)],[],0,0⟩)\/
    (0<i/\s=⟨[(0,v),(1,w),(5,.an 0 0 i),(6,aa c),(7,aa i)],[(0,.cells true true false 1 (out.map aa))],1,0⟩)))
  (Q:=fun ex s'=>∃tm out,ex= .exit 0/\dg out/\dv out+dv b=dv a/\out.length<=20000000000/\((out=[]/\af tm 5= .ab/\s'=⟨tm,[],0,0⟩)\/(0<out.length/\af tm 5= .an 0 0 out.length/\s'=⟨tm,[(0,.cells true true false 1 (out.map aa))],1,0⟩))) ?_
 rintro k s ⟨i,c,out,hk,hlen,hc,nt,aQ,hs⟩;have e2:=Uw mK hw i;unfold ae at e2;have ga:=iv ha i;have gb:=iv hb i;by_cases sF:i<a.length
 ·left
  obtain ⟨x,hx⟩:∃x,x=a.getD i 0:=⟨_,rfl⟩;obtain ⟨y,hy⟩:∃y,y=b.getD i 0:=⟨_,rfl⟩;have DQ:a[i]=x:=by rw [hx];simp [y9,xz sF]
  have e1:=hv.bk sF;rw [DQ] at e1;rw [<-hx] at ga;rw [<-hy] at e2 gb;obtain ⟨z,c',hz,ma,mb,lV,CW⟩:∃(z:Int) (c':Nat),z=x-y-c+1000000000*c'/\c'<=1/\0<=z/\z<1000000000/\((x-y-c<0/\c'=1)\/(¬x-y-c<0/\c'=0)):=by
   by_cases h:x-y-c<0
   ·exact ⟨x-y-c+1000000000,1,by omega,by omega,by omega,by omega,.inl ⟨h,rfl⟩⟩
   ·exact ⟨x-y-c,0,by omega,by omega,by omega,by omega,.inr ⟨h,rfl⟩⟩
  have kT:=an7 hx hy ga.1 gb.1 mb hz hlen aQ;have qD:dg (out++[z]):=hJ.2 ⟨nt,jF.2 ⟨mb,lV⟩⟩;have To:(out++[z]).length=i+1:=by simp [hlen]
  have fin:∃s',D P L rz s=some (.normal,s')/\bD [0,1,5,6,7] s'=⟨[(0,v),(1,w),(5,.an 0 0 (i+1)),(6,aa c'),(7,aa (i+1:Nat))],[(0,.cells true true false 1 ((out++[z]).map aa))],1,0⟩:=by
   rcases CW with ⟨fP,rfl⟩ | ⟨fP,rfl⟩
   ·have fQ:x-y-c+1000000000=z:=by omega
    rcases hs with ⟨h0,rfl⟩ | ⟨h0,rfl⟩
    ·subst h0;have jf:out=[]:=yJ hlen;subst jf
     simp only [go_sem,ya,yb,xQ,yt,ye,yh,rz,hv.len,hw.ah,show ((0:Nat):Int)<a.length by omega,e1,e2,wrap64 (n:=x-y) (by omega) (by omega),wrap64 (n:=x-y-(c:Int)) (by omega) (by omega),fP,fQ,wrap64 (n:=z) (by omega) (by omega),kL];refine ⟨_,rfl,?_⟩;rw [wrap64 (by omega) (by omega)];simp only [go_sem,ya,yb,ay,aJ hv.pu,aO _ hv.pu,aJ hw.pu,aO _ hw.pu]<;>rfl
    ·simp only [go_sem,ya,yb,ye,yh,rz,hv.len,hw.ah,show (i:Int)<a.length by omega,e1,e2,wrap64 (n:=x-y) (by omega) (by omega),wrap64 (n:=x-y-(c:Int)) (by omega) (by omega),fP,fQ,wrap64 (n:=z) (by omega) (by omega)]
     rw [ki (ex:=false) (pu:=true) (cs:=out.map aa) (by simp only [go_sem,ya]) (by rw [xu,hlen,yh]) (by omega) (by omega) (by decide) (by simp only [go_sem])];simp only [go_sem,ya,yb];refine ⟨_,rfl,?_⟩;rw [wrap64 (by omega) (by omega),xC];simp only [go_sem,ya,yb,ay,aJ hv.pu,aO _ hv.pu,aJ hw.pu,aO _ hw.pu]<;>rfl
   ·have fQ:x-y-c=z:=by omega
    have fP:¬z<0:=by omega
    rcases hs with ⟨h0,rfl⟩ | ⟨h0,rfl⟩
    ·subst h0;have jf:out=[]:=yJ hlen;subst jf
     simp only [go_sem,ya,yb,xQ,yt,ye,yh,rz,hv.len,hw.ah,show ((0:Nat):Int)<a.length by omega,e1,e2,wrap64 (n:=x-y) (by omega) (by omega),fQ,wrap64 (n:=z) (by omega) (by omega),fP,kL];refine ⟨_,rfl,?_⟩;rw [wrap64 (by omega) (by omega)];simp only [go_sem,ya,yb,ay,aJ hv.pu,aO _ hv.pu,aJ hw.pu,aO _ hw.pu]<;>rfl
    ·simp only [go_sem,ya,yb,ye,yh,rz,hv.len,hw.ah,show (i:Int)<a.length by omega,e1,e2,wrap64 (n:=x-y) (by omega) (by omega),fQ,wrap64 (n:=z) (by omega) (by omega),fP]
     rw [ki (ex:=false) (pu:=true) (cs:=out.map aa) (by simp only [go_sem,ya]) (by rw [xu,hlen,yh]) (by omega) (by omega) (by decide) (by simp only [go_sem])];simp only [go_sem,ya,yb];refine ⟨_,rfl,?_⟩;rw [wrap64 (by omega) (by omega),xC];simp only [go_sem,ya,yb,ay,aJ hv.pu,aO _ hv.pu,aJ hw.pu,aO _ hw.pu]<;>rfl
  obtain ⟨s',f1,f2⟩:=fin;exact ⟨s',k-1,f1,by omega,i+1,c',_,by omega,To,ma,qD,kT,.inr ⟨by omega,f2⟩⟩
 ·right
  have hi:i=a.length:=by omega
  have afg:dv out+dv b=dv a:=by
   rw [yM (by omega),yM (by omega)] at aQ;have bi:=jL nt;rw [hlen] at bi;rcases (show c=0\/c=1 by omega) with rfl | rfl
   ·omega
   ·omega
  rcases hs with ⟨h0,rfl⟩ | ⟨h0,rfl⟩
  ·simp only [go_sem,ya,rz,hv.len,show ¬(i:Int)<a.length by omega];exact ⟨_,_,rfl,by simp,_,out,rfl,nt,afg,by omega,.inl ⟨yJ (by omega),by simp only [go_sem,ya],rfl⟩⟩
  ·simp only [go_sem,ya,rz,hv.len,show ¬(i:Int)<a.length by omega];exact ⟨_,_,rfl,by simp,_,out,rfl,nt,afg,by omega,.inr ⟨by omega,by rw [hlen];simp only [go_sem,ya],rfl⟩⟩
def agk (h:Has P L 297 JF) (mK:Has P L 302 rN) (cR:Has P L 300 lT) {v w:AV} {a b:List Int} (hv:br v a) (hw:br w b) (ha:dg a) (hb:dg b) (na:nz a) (nb:nz b) (la:a.length<=20000000000) (hle:dv b<=dv a):
  ∃r out,ae P L 297 [v,w] r/\br r out/\shut r=r/\dg out/\nz out/\dv out+dv b=dv a:=by
 have pQ:b.length<=a.length:=by
  by_cases h:a.length<b.length
  ·have:=SI ha nb hb h;omega
  ·omega
 unfold ae;rw [av h];simp only [go_sem,JF];generalize hq:D P L (.loop [0,1,5,6,7] rz) _=q;obtain ⟨ex,s,rfl,tm,out,rfl,hd,aQ,hl,hs⟩:=bP hq (asS (P:=P) (L:=L) mK hv hw ha hb la hle pQ a.length) ⟨0,0,[],by omega,rfl,by omega,rfl,by simp [dv],.inl ⟨rfl,by simp only [go_sem,ya,ay,aJ hv.pu,aO _ hv.pu,aJ hw.pu,aO _ hw.pu]<;>rfl⟩⟩
 have n8:=fm false out;rcases hs with ⟨h0,h5,rfl⟩ | ⟨h0,h5,rfl⟩
 ·subst h0;obtain ⟨r,e1,hr,fS⟩:=Bz cR (v:= .ab) (l:=[]) pZ (by simp);unfold ae at e1;refine ⟨r,et [],?_,hr,fS,rfl,rfl,by rw [sP];exact aQ⟩
  simp only [go_sem,ay,h5,e1,fS,hr.dT]
 ·obtain ⟨r,e1,hr,fS⟩:=Bz cR n8 hl;unfold ae at e1;refine ⟨r,et out,?_,hr,fS,AT hd,Eo out,by rw [sP];exact aQ⟩
  have gZ:∀hp:Hp,lU 0 out.length (some (false,1,out.map aa,hp))=some (.aE false out.length (out.map aa),hp):=fun hp=>nC false (by simp) (by decide)
  simp only [go_sem,yb,ay,h5,gZ,e1,fS,hr.dT]
end
end
section
open Go (IntKind)
def B8 {hp:Hp} {ct id o:Nat} {v:Int} {ex:Bool} {l:List Int} (h:o<l.length):eM hp ct id o 1 [.int .i64 v] (some (.cells true true ex 1 (l.map aa)))=some (.ap [],aW hp id (.cells true true ex 1 ((l.set o v).map aa)),ct):=by
 rw [jb (by rfl) (by simp;omega) (by rfl)]
 have:over o [AV.int .i64 v] (l.map aa)=(l.set o v).map aa:=by
  simp only [over,yr,yE,yd];rw [List.map_set,List.set_eq_take_append_cons_drop,yI (by simpa using h)]
  simp
 rw [this];rfl
def rE {l:List Int} {o:Nat} (h:o<l.length):xm o (l.map aa)=AV.int .i64 (l.getD o 0)::xm (o+1) (l.map aa):=by
 rw [yL (by simpa using h)]
 grind
def qv {v:AV} {l:List Int} (hv:br v l) {i:Nat} (h:i<l.length):jx 1 i v=some (.aI (.int .i64 (l.getD i 0)::(l.map aa).drop (i+1))):=by
 rw [hv.bk h]
 grind
def an8 {o x y c:Int} (ho:0<=o/\o<1000000000) (hx:0<=x/\x<1000000000) (hy:0<=y/\y<1000000000) (hc:0<=c/\c<1000000000):
  (0<=x*y/\x*y<=999999998000000001)/\0<=o+x*y+c/\o+x*y+c<1000000000000000000:=by
 have h1:=Int.mul_nonneg hx.1 hy.1;have h2:=Int.mul_le_mul (show x<=999999999 by omega) (show y<=999999999 by omega) hy.1 (by decide);omega
section
variable {P:aG} {L:Lib}
def asT {v w:AV} {a b:List Int} (hv:br v a) (hw:br w b) (ha:dg a) (hb:dg b) (la:a.length<=20000000000) (lb:b.length<=20000000000) {n i:Nat} (hn:n=a.length+b.length) (hi:i<a.length) {out0:List Int}:
  ∀k s,(∃(j:Nat) (c:Int) (out:List Int),bD [0,1,5,6,7,8] s=⟨[(0,v),(1,w),(5,.an 0 0 n),(6,aa i),(7,aa c),(8,aa j)],[(0,.cells true true true 1 (out.map aa))],1,0⟩/\j+k=b.length/\out.length=n/\dg out/\(0<=c/\c<1000000000)/\
    dv out+1000000000^i*1000000000^j*c.toNat=dv out0+1000000000^i*((a.getD i 0).toNat*dv (b.take j))/\(∀m,i+b.length<=m->out.getD m 0=out0.getD m 0))->
   ∃ex s',D P L (.loop [0,1,5,6,7,8] IP) s=some (ex,s')/\∃tm c out,s'=⟨tm,[(0,.cells true true true 1 (out.map aa))],1,0⟩/\ex= .exit 2/\af tm 0=v/\af tm 1=w/\af tm 5= .an 0 0 n/\af tm 6=aa i/\af tm 7=aa c/\out.length=n/\dg out/\(0<=c/\c<1000000000)/\
    dv out+1000000000^i*1000000000^b.length*c.toNat=dv out0+1000000000^i*((a.getD i 0).toNat*dv b)/\(∀m,i+b.length<=m->out.getD m 0=out0.getD m 0):=by
 refine cg (I:=fun k s=>∃(j:Nat) (c:Int) (out:List Int),s=⟨[(0,v),(1,w),(5,.an 0 0 n),(6,aa i),(7,aa c),(8,aa j)],[(0,.cells true true true 1 (out.map aa))],1,0⟩/\j+k=b.length/\out.length=n/\dg out/\(0<=c/\c<1000000000)/\
    dv out+1000000000^i*1000000000^j*c.toNat=dv out0+1000000000^i*((a.getD i 0).toNat*dv (b.take j))/\(∀m,i+b.length<=m->out.getD m 0=out0.getD m 0))
  (Q:=fun ex s'=>∃tm c out,s'=⟨tm,[(0,.cells true true true 1 (out.map aa))],1,0⟩/\ex= .exit 2/\af tm 0=v/\af tm 1=w/\af tm 5= .an 0 0 n/\af tm 6=aa i/\af tm 7=aa c/\out.length=n/\dg out/\(0<=c/\c<1000000000)/\
    dv out+1000000000^i*1000000000^b.length*c.toNat=dv out0+1000000000^i*((a.getD i 0).toNat*dv b)/\(∀m,i+b.length<=m->out.getD m 0=out0.getD m 0)) ?_
 rintro k s ⟨j,c,out,rfl,hk,hlen,hd,hc,aQ,gM⟩;by_cases hj:j<b.length
 ·left
  obtain ⟨x,hx⟩:∃x,x=a.getD i 0:=⟨_,rfl⟩;obtain ⟨y,hy⟩:∃y,y=b.getD j 0:=⟨_,rfl⟩;obtain ⟨o,ho⟩:∃o,o=out.getD (i+j) 0:=⟨_,rfl⟩;have gx:=iv ha i;have gy:=iv hb j;have nn:=iv hd (i+j);rw [<-hx] at gx;rw [<-hy] at gy;rw [<-ho] at nn;obtain ⟨p1,p2,p3⟩:=an8 nn gx gy hc;obtain ⟨t,ht⟩:∃t:Nat,o+x*y+c=t:=⟨(o+x*y+c).toNat,by omega⟩;have hr:((t:Nat):Int).tmod 1000000000=((t%1000000000:Nat):Int):=by rw [xn (by omega)];rfl
  have hq:((t:Nat):Int).tdiv 1000000000=((t/1000000000:Nat):Int):=by rw [xK (by omega)];rfl
  have e1:=qv hv hi;have e2:=qv hw hj;rw [<-hx] at e1;rw [<-hy] at e2;have e3:=rE (l:=out) (o:=i+j) (by omega);rw [<-ho] at e3;have Aj:t=o.toNat+x.toNat*y.toNat+c.toNat:=by
   have:((x.toNat*y.toNat:Nat):Int)=x*y:=by rw [wE,tO gx.1,tO gy.1]
   omega
  have aW:=SJ (l:=out) (j:=i+j) (x:=((t%1000000000:Nat):Int)) (by omega);rw [<-ho,xI,wC] at aW;have kT:=amR (Y:=dv (b.take j)) Aj aW (by rw [hx];exact aQ)
  simp only [go_sem,ya,yh,IP,hw.len,show (j:Int)<b.length by omega,wrapN (n:=i+j) (by omega),show (i:Int)+(j:Int)=((i+j:Nat):Int) from rfl,dj 0 0 (show i+j<n by omega),yd,e3,e1,e2,wrap64 (n:=x*y) (by omega) (by omega),wrap64 (n:=o+x*y) (by omega) (by omega),ht,wrapN (n:=t) (by omega),er _ _ _ (show (1000000000:Int)≠0 by decide),eU _ _ _ (show (1000000000:Int)≠0 by decide),hr,hq,wrapN (n:=t/1000000000) (by omega),B8 (l:=out) (o:=i+j) (by omega)];refine ⟨_,k-1,rfl,by omega,j+1,((t/1000000000:Nat):Int),out.set (i+j) ((t%1000000000:Nat):Int),?_,by omega,by simp [hlen],M3 hd (by omega),by omega,?_,fun m hm=>?_⟩
  ·rw [wrap64 (by omega) (by omega)];simp only [go_sem,ya,yb,ay,aJ hv.pu,aO _ hv.pu,aJ hw.pu,aO _ hw.pu]<;>rfl
  ·rw [xI,oG,xg,<-hx,<-hy];exact kT
  ·rw [aaz (by omega)];exact gM m hm
 ·right
  have:j=b.length:=by omega
  subst this;rw [wo] at aQ;simp only [go_sem,ya,IP,hw.len,show ¬(b.length:Int)<b.length by omega];exact ⟨_,_,rfl,by simp,_,c,out,rfl,rfl,by simp only [go_sem,ya],by simp only [go_sem,ya],by simp only [go_sem,ya],by simp only [go_sem,ya],by simp only [go_sem,ya],hlen,hd,hc,aQ,gM⟩
end
end
section
open Go (IntKind)
def Q0 (n:Nat):(yz n [AV.int .i64 0]).flatten=(yz n (0:Int)).map aa:=by
 induction n with
 | zero=>rfl
 | succ n ih=>simp only [List.replicate_succ,List.flatten_cons,ih,yU];rfl
def abV (b:Bool):JR true (some b)=some (.bool (!b)):=by cases b<;>rfl
def Y6 (n m:Nat):(yz n (0:Int)).getD m 0=0:=by
 simp [y9,List.getElem?_replicate];split<;>rfl
section
variable {P:aG} {L:Lib}
def asU {v w:AV} {a b:List Int} (hv:br v a) (hw:br w b) (ha:dg a) (hb:dg b) (la:a.length<=20000000000) (lb:b.length<=20000000000) {n:Nat} (hn:n=a.length+b.length):
  ∀k s,(∃(i:Nat) (out:List Int),bD [0,1,5,6] s=⟨[(0,v),(1,w),(5,.an 0 0 n),(6,aa i)],[(0,.cells true true true 1 (out.map aa))],1,0⟩/\i+k=a.length/\out.length=n/\dg out/\dv out=dv (a.take i)*dv b/\(∀m,i+b.length<=m->out.getD m 0=0))->
   ∃ex s',D P L (.loop [0,1,5,6] IQ) s=some (ex,s')/\∃tm out,s'=⟨tm,[(0,.cells true true true 1 (out.map aa))],1,0⟩/\ex= .exit 0/\af tm 5= .an 0 0 n/\out.length=n/\dg out/\dv out=dv a*dv b:=by
 refine cg (I:=fun k s=>∃(i:Nat) (out:List Int),s=⟨[(0,v),(1,w),(5,.an 0 0 n),(6,aa i)],[(0,.cells true true true 1 (out.map aa))],1,0⟩/\i+k=a.length/\out.length=n/\dg out/\dv out=dv (a.take i)*dv b/\(∀m,i+b.length<=m->out.getD m 0=0))
  (Q:=fun ex s'=>∃tm out,s'=⟨tm,[(0,.cells true true true 1 (out.map aa))],1,0⟩/\ex= .exit 0/\af tm 5= .an 0 0 n/\out.length=n/\dg out/\dv out=dv a*dv b) ?_
 rintro k s ⟨i,out,rfl,hk,hlen,hd,aQ,gM⟩;by_cases hi:i<a.length
 ·left
  simp only [go_sem,ya,IQ,hv.len,show (i:Int)<a.length by omega];generalize hq:D P L (.loop [0,1,5,6,7,8] IP) _=q;obtain ⟨ex,s,rfl,tm,c,rR,rfl,rfl,t0,t1,t5,t6,t7,CU,jB,hc,Tl,JW⟩:=bP hq (asT (P:=P) (L:=L) hv hw ha hb la lb hn hi (out0:=out) b.length) ⟨0,0,out,by simp only [go_sem,ya,yb,ay,aJ hv.pu,aO _ hv.pu,aJ hw.pu,aO _ hw.pu]<;>rfl,by omega,hlen,hd,by omega,by simp [dv],fun m _=>rfl⟩
  have hz:rR.getD (i+b.length) 0=0:=by rw [JW _ (yC _),gM _ (yC _)]
  have e3:=rE (l:=rR) (o:=i+b.length) (by omega);rw [hz] at e3;have aW:=SJ (l:=rR) (j:=i+b.length) (x:=c) (by omega);rw [hz,wC] at aW
  simp only [go_sem,ya,yh,ay,t0,t1,t5,t6,t7,hw.len,aJ hv.pu,aO _ hv.pu,aJ hw.pu,aO _ hw.pu,wrapN (n:=i+b.length) (by omega),show (i:Int)+(b.length:Int)=((i+b.length:Nat):Int) from rfl,dj 0 0 (show i+b.length<n by omega),yd,e3,Int.zero_add,wrap64 (n:=c) (by omega) (by omega),B8 (l:=rR) (o:=i+b.length) (by omega)];refine ⟨_,k-1,rfl,by omega,i+1,rR.set (i+b.length) c,?_,by omega,by simp [CU],M3 jB hc,?_,fun m hm=>?_⟩
  ·rw [wrap64 (by omega) (by omega)];simp only [go_sem,ya,yb,ay,aJ hv.pu,aO _ hv.pu,aJ hw.pu,aO _ hw.pu]<;>rfl
  ·rw [oG,wj,<-aQ,xk];simp only [Int.toNat_zero,xF,yX] at aW;rw [aW];exact Tl
  ·rw [aaz (by omega),JW m (by omega),gM m (by omega)]
 ·right
  have:i=a.length:=by omega
  subst this;rw [wo] at aQ;simp only [go_sem,ya,IQ,hv.len,show ¬(a.length:Int)<a.length by omega];exact ⟨_,_,rfl,by simp,_,out,rfl,rfl,by simp only [go_sem,ya],hlen,hd,aQ⟩
def UX (h:Has P L 293 Bt) (cR:Has P L 300 lT) {v w:AV} {a b:List Int} (hv:br v a) (hw:br w b) (ha:dg a) (hb:dg b) (la:a.length<=8000000000) (lb:b.length<=8000000000):
  ∃r out,ae P L 293 [v,w] r/\br r out/\shut r=r/\dg out/\nz out/\dv out=dv a*dv b:=by
 obtain ⟨n,hn⟩:∃n,n=a.length+b.length:=⟨_,rfl⟩;have cU:∀ct:Nat,zQ ct 1 8 [.int .i64 0] (some n) (some n)=some (.an ct 0 n,.cells true true true 1 ((yz n (0:Int)).map aa)):=fun ct=>by
  rw [EO (sz:=1) (by omega) (by omega) (by rfl) (by rfl),Q0];rfl
 unfold ae;rw [av h]
 simp only [go_sem,ya,yb,Bt,hv.len,hw.len,wrapN (n:=n) (by omega),show (a.length:Int)+(b.length:Int)=((a.length+b.length:Nat):Int) from rfl,<-hn,cU];generalize hq:D P L (.loop [0,1,5,6] IQ) _=q;obtain ⟨ex,s,rfl,tm,out,rfl,rfl,t5,hlen,hd,aQ⟩:=bP hq (asU (P:=P) (L:=L) hv hw ha hb (by omega) (by omega) hn a.length) ⟨0,yz n 0,by simp only [go_sem,ya,yb,ay,aJ hv.pu,aO _ hv.pu,aJ hw.pu,aO _ hw.pu]<;>rfl,by omega,by simp,aaB n,by rw [aaA];simp [dv],fun m _=>Y6 n m⟩
 have n8:=fm true out;rw [hlen] at n8;obtain ⟨r,e1,hr,fS⟩:=Bz cR n8 (by omega);unfold ae at e1;refine ⟨r,et out,?_,hr,fS,AT hd,Eo out,by rw [sP];exact aQ⟩
 have gZ:∀hp:Hp,lU 0 n (some (true,1,out.map aa,hp))=some (.aE true n (out.map aa),hp):=fun hp=>nC true (by simp [hlen]) (by decide)
 simp only [go_sem,yb,ay,t5,gZ,e1,fS,hr.dT]
def J9 (h:Has P L 278 Ol) (ll:Has P L 293 Bt) (ie:Has P L 294 Bu) (cR:Has P L 300 lT) {v w:AV} {n m:Int} {K:Nat} (hK:K<=8000000000) (hv:iW v n) (hw:iW w m) (hn:n.natAbs<1000000000^K) (hm:m.natAbs<1000000000^K):
  ∃r,ae P L 278 [v,w] r/\iW r (n*m):=by
 obtain ⟨x,a,rfl,hx,ha,na,va⟩:=hv;obtain ⟨y,b,rfl,hy,hb,nb,vb⟩:=hw;have la:=xj (ix ha na (by rw [va];exact hn)) hK
 have lb:=xj (ix hb nb (by rw [vb];exact hm)) hK
 obtain ⟨z,out,e1,hz,fS,hd,B2,aQ⟩:=UX ll cR hx hy ha hb la lb;have lo:out.length<=20000000000:=by
  refine ix hd B2 ?_;rw [aQ];have h1:=jL ha;have h2:=jL hb;have h3:dv a*dv b<1000000000^a.length*1000000000^b.length:=Nat.mul_lt_mul'' h1 h2;rw [<-wC] at h3;have hk:∀K,a.length+b.length<=K->dv a*dv b<1000000000^K:=fun K h=>yN h3 (xP (by decide) h)
  exact hk 20000000000 (by omega)
 obtain ⟨r,e2,hr⟩:=nS ie cR (!(decide (n<0)==decide (m<0))) hz hd lo;have e:ck (!(decide (n<0)==decide (m<0))) (dv out)=n*m:=by
  rw [aQ,va,vb];have hnm:((n.natAbs*m.natAbs:Nat):Int)=(n.natAbs:Int)*m.natAbs:=wE _ _;unfold ck;by_cases h0:n<0<;>by_cases h1:m<0<;>simp only [h0,h1,yq,yo,uh,Bool.not_true,yD,yO,hnm]
  ·rw [show (n.natAbs:Int)= -n by omega,show (m.natAbs:Int)= -m by omega,Int.neg_mul_neg]
  ·rw [show (true==false)=false from rfl,yF,yI rfl,show (n.natAbs:Int)= -n by omega,show (m.natAbs:Int)=m by omega,Int.neg_mul,yaV]
  ·rw [show (false==true)=false from rfl,yF,yI rfl,show (n.natAbs:Int)=n by omega,show (m.natAbs:Int)= -m by omega,Int.mul_neg,yaV]
  ·rw [show (n.natAbs:Int)=n by omega,show (m.natAbs:Int)=m by omega]
 rw [e] at hr;obtain ⟨w2,l2,rfl,im,dU,iS,zT⟩:=hr;refine ⟨_,?_,w2,l2,rfl,im,dU,iS,zT⟩;unfold ae at e1 e2 ⊢;rw [av h];simp only [go_sem,ya,yb,Ol,aB,hx.pu,hx.ah,hx.one,hy.pu,hy.ah,hy.one,hz.ah,hz.shut,im.pu,im.one,aV,yd,bU,e1,oS,abV,e2,de,bl];rcases im with ⟨rfl,_⟩ | ⟨e,rfl⟩<;>rfl
end
end
section
open Go (IntKind)
def aqh (i:Nat) (q:List Int) (x:Int):(yz (i+1) (0:Int)++q).set i x=yz i 0++x::q:=by
 rw [List.replicate_succ',List.append_assoc,List.set_append_right _ _ (by simp)]
 simp
section
variable {P:aG} {L:Lib}
def asV {v:AV} {a:List Int} (hv:br v a) (ha:dg a) (la:a.length<=20000000000) {d:Nat} (h0:0<d) (h1:d<1000000000):
  ∀k s,(∃(j r:Nat) (q:List Int),bD [0,1,6,7,8] s=⟨[(0,v),(1,aa d),(6,.an 0 0 a.length),(7,aa r),(8,aa ((j:Int)-1))],[(0,.cells true true true 1 ((yz j (0:Int)++q).map aa))],1,0⟩/\j=k/\j+q.length=a.length/\r<d/\dg q/\dv (a.drop j)=d*dv q+r)->
   ∃ex s',D P L (.loop [0,1,6,7,8] IR) s=some (ex,s')/\∃tm r q,s'=⟨tm,[(0,.cells true true true 1 (q.map aa))],1,0⟩/\ex= .exit 0/\af tm 6= .an 0 0 a.length/\af tm 7=aa (r:Nat)/\q.length=a.length/\r<d/\dg q/\dv a=d*dv q+r:=by
 refine cg (I:=fun k s=>∃(j r:Nat) (q:List Int),s=⟨[(0,v),(1,aa d),(6,.an 0 0 a.length),(7,aa r),(8,aa ((j:Int)-1))],[(0,.cells true true true 1 ((yz j (0:Int)++q).map aa))],1,0⟩/\j=k/\j+q.length=a.length/\r<d/\dg q/\dv (a.drop j)=d*dv q+r)
  (Q:=fun ex s'=>∃tm r q,s'=⟨tm,[(0,.cells true true true 1 (q.map aa))],1,0⟩/\ex= .exit 0/\af tm 6= .an 0 0 a.length/\af tm 7=aa (r:Nat)/\q.length=a.length/\r<d/\dg q/\dv a=d*dv q+r) ?_
 rintro k s ⟨j,r,q,rfl,rfl,hl,hr,hd,aQ⟩
 cases j with
 | zero=>
  right
  simp only [go_sem,ya,IR,show ¬(0:Int)<=((0:Nat):Int)-1 by omega];exact ⟨_,_,rfl,by simp,_,r,q,rfl,rfl,by simp only [go_sem,ya],by simp only [go_sem,ya],by omega,hr,hd,aQ⟩
 | succ i=>
  left
  have hi:i<a.length:=by omega
  obtain ⟨x,hx⟩:∃x,x=a.getD i 0:=⟨_,rfl⟩;have e1:=qv hv hi;have gx:=iv ha i;rw [<-hx] at e1 gx;obtain ⟨t,ht⟩:∃t:Nat,t=r*1000000000+x.toNat:=⟨_,rfl⟩;have Aj:(r:Int)*1000000000+x=(t:Int):=by omega
  have kH:t<d*1000000000:=by
   have:(r+1)*1000000000<=d*1000000000:=yW _ hr
   rw [wj] at this;omega
  have eN:t/d<1000000000:=(wz h0).2 (by rw [xE];exact kH)
  have cp:t%d<d:=xy _ h0;have e2:((t:Nat):Int).tdiv d=((t/d:Nat):Int):=by rw [xK (by omega)];rfl
  have e3:((t:Nat):Int).tmod d=((t%d:Nat):Int):=by rw [xn (by omega)];rfl
  have KX:(yz (i+1) (0:Int)++q).length=a.length:=by simp;omega
  have aX:=fun (hp:Hp) (ct id:Nat) (ex:Bool)=>B8 (hp:=hp) (ct:=ct) (id:=id) (ex:=ex) (v:=((t/d:Nat):Int)) (l:=yz (i+1) (0:Int)++q) (o:=i) (by rw [KX];exact hi)
  simp only [aqh] at aX
  simp only [go_sem,ya,yh,IR,show ((i+1:Nat):Int)-1=(i:Int) by omega,show (0:Int)<=(i:Int) by omega,wrap64 (n:=(r:Int)*1000000000) (by omega) (by omega),e1,Aj,wrapN (n:=t) (by omega),eU _ _ _ (show (d:Int)≠0 by omega),er _ _ _ (show (d:Int)≠0 by omega),e2,e3,wrapN (n:=t/d) (by omega),dj 0 0 (show i<a.length from hi),yd,aX]
  refine ⟨_,i,rfl,by omega,i,t%d,((t/d:Nat):Int)::q,?_,rfl,by simp;omega,cp,(hJ (a:=[((t/d:Nat):Int)]) (b:=q)).2 ⟨jF.2 ⟨Int.natCast_nonneg _,uo.2 eN⟩,hd⟩,?_⟩
  ·rw [wrap64 (by omega) (by omega)];simp only [go_sem,ya,yb,ay,aJ hv.pu,aO _ hv.pu]<;>rfl
  ·have jm:a.drop i=x::a.drop (i+1):=by
    rw [yL hi,hx];simp [y9,xz hi]
   rw [jm];simp only [dv,aQ,xI];have e:=wq t d;rw [xt,xt d,Nat.mul_left_comm 1000000000 d];omega
def agl (h:Has P L 299 Bv) (cR:Has P L 300 lT) {v:AV} {a:List Int} (hv:br v a) (ha:dg a) (la:a.length<=20000000000) {d:Nat} (h0:0<d) (h1:d<1000000000):
  ∃r q,ae P L 299 [v,aa d] (.ap [r,aa (dv a%d:Nat)])/\br r q/\shut r=r/\bT r=r/\dg q/\nz q/\dv q=dv a/d:=by
 obtain ⟨n,hn⟩:∃n,n=a.length:=⟨_,rfl⟩;have cU:∀ct:Nat,zQ ct 1 8 [.int .i64 0] (some n) (some n)=some (.an ct 0 n,.cells true true true 1 ((yz n (0:Int)).map aa)):=fun ct=>by
  rw [EO (sz:=1) (by omega) (by omega) (by rfl) (by rfl),Q0];rfl
 unfold ae;rw [av h];simp only [go_sem,ya,yb,Bv,hv.len,<-hn,cU];generalize hq:D P L (.loop [0,1,6,7,8] IR) _=q;obtain ⟨ex,s,rfl,tm,r,qs,rfl,rfl,t6,t7,hlen,hr,hd,aQ⟩:=bP hq (asV (P:=P) (L:=L) hv ha la h0 h1 a.length) ⟨a.length,0,[],by
  rw [wrap64 (by omega) (by omega),List.append_nil,<-hn]
  simp only [go_sem,ya,yb,ay,aJ hv.pu,aO _ hv.pu]<;>rfl,rfl,by simp,h0,rfl,by rw [y8 (yC _)];simp [dv]⟩
 have n8:=fm true qs;rw [hlen] at n8;obtain ⟨w,e1,hw,fS⟩:=Bz cR n8 (by omega);unfold ae at e1;have eO:dv a/d=dv qs/\dv a%d=r:=(Nat.div_mod_unique h0).2 ⟨by omega,hr⟩;refine ⟨w,et qs,?_,hw,fS,hw.bT,AT hd,Eo qs,by rw [sP,eO.1]⟩;have gZ:∀hp:Hp,lU 0 a.length (some (true,1,qs.map aa,hp))=some (.aE true a.length (qs.map aa),hp):=fun hp=>nC true (by simp [hlen]) (by decide)
 rw [eO.2];simp only [go_sem,ya,yb,ay,t6,t7,gZ,e1,fS];rcases hw with ⟨rfl,_⟩ | ⟨e,rfl⟩<;>rfl
def awm (h:Has P L 279 Fl) (OX:Has P L 295 JE) (nV:Has P L 296 rM) (OY:Has P L 297 JF) (mK:Has P L 302 rN) (ie:Has P L 294 Bu) (cR:Has P L 300 lT) {v w:AV} {n m:Int} {K:Nat} (hK:K<=8000000000) (hv:iW v n) (hw:iW w m) (hn:n.natAbs<1000000000^K) (hm:m.natAbs<1000000000^K):
  ∃r,ae P L 279 [v,w] r/\iW r (n+m):=by
 obtain ⟨x,a,rfl,hx,ha,na,va⟩:=hv;obtain ⟨y,b,rfl,hy,hb,nb,vb⟩:=hw;have la:=xj (ix ha na (by rw [va];exact hn)) hK
 have lb:=xj (ix hb nb (by rw [vb];exact hm)) hK
 by_cases hs:(decide (n<0)==decide (m<0))=true
 ·obtain ⟨z,out,e1,hz,hd,aQ,hl⟩:=agj OX mK hx hy ha hb (by omega) (by omega);have lo:out.length<=20000000000:=by omega
  obtain ⟨r,e2,hr⟩:=nS ie cR (decide (n<0)) hz hd lo;have e:ck (decide (n<0)) (dv out)=n+m:=by
   have DS:(n<0)=(m<0):=by simpa using eq_of_beq hs
   rw [aQ,va,vb];unfold ck;by_cases h0:n<0
   ·have h1:m<0:=DS▸h0;simp only [h0,yq,y5];omega
   ·have h1:¬m<0:=DS▸h0;simp only [h0,yo,yD,yO];omega
  rw [e] at hr;obtain ⟨w2,l2,rfl,im,dU,iS,zT⟩:=hr;refine ⟨_,?_,w2,l2,rfl,im,dU,iS,zT⟩;unfold ae at e1 e2 ⊢;rw [av h];simp only [go_sem,ya,yb,Fl,aB,hx.pu,hx.ah,hx.one,hy.pu,hy.ah,hy.one,hz.ah,im.pu,im.one,aV,yd,bU,e1,oS,cQ,hs,e2,de,bl];rcases im with ⟨rfl,_⟩ | ⟨e,rfl⟩<;>rfl
 ·have hs:(decide (n<0)==decide (m<0))=false:=by simpa using hs
  have DS:¬((n<0)=(m<0)):=fun e=>by simp [e] at hs
  have ec:=UW nV hx hy ha hb na nb (by omega) (by omega);by_cases hc:dv a<dv b
  ·have eh:eb (dv a) (dv b)= -1:=by unfold eb;rw [yI hc]
   rw [eh] at ec;obtain ⟨z,out,e1,hz,fS,hd,B2,aQ⟩:=agk OY mK cR hy hx hb ha nb na (by omega) (by omega);have lo:out.length<=20000000000:=by
    refine ix hd B2 ?_
    have:=jL hb
    have hk:∀K,b.length<=K->dv out<1000000000^K:=fun K h=>yN (show dv out<1000000000^b.length by omega) (xP (by decide) h)
    exact hk 20000000000 (by omega)
   obtain ⟨r,e2,hr⟩:=nS ie cR (decide (m<0)) hz hd lo;have e:ck (decide (m<0)) (dv out)=n+m:=by
    rw [va,vb] at aQ;unfold ck;by_cases h0:m<0
    ·have h1:¬n<0:=fun h1=>DS (by simp [h0,h1])
     simp only [h0,yq,y5];omega
    ·have h1:n<0:=by
      by_cases h1:n<0
      ·exact h1
      ·exact absurd (by simp [h0,h1]) DS
     simp only [h0,yo,yD,yO];omega
   rw [e] at hr;obtain ⟨w2,l2,rfl,im,dU,iS,zT⟩:=hr;refine ⟨_,?_,w2,l2,rfl,im,dU,iS,zT⟩;unfold ae at e1 e2 ec ⊢;rw [av h];simp only [go_sem,ya,yb,Fl,aB,hx.pu,hx.ah,hx.one,hy.pu,hy.ah,hy.one,hz.ah,hz.shut,im.pu,im.one,aV,yd,bU,e1,oS,cQ,hs,ec,show ¬(0:Int)<=-1 by decide,e2,de,bl];rcases im with ⟨rfl,_⟩ | ⟨e,rfl⟩<;>rfl
  ·have eh:(0:Int)<=eb (dv a) (dv b):=by unfold eb;rw [yB hc];split<;>decide
   obtain ⟨z,out,e1,hz,fS,hd,B2,aQ⟩:=agk OY mK cR hx hy ha hb na nb (by omega) (by omega);have lo:out.length<=20000000000:=by
    refine ix hd B2 ?_
    have:=jL ha
    have hk:∀K,a.length<=K->dv out<1000000000^K:=fun K h=>yN (show dv out<1000000000^a.length by omega) (xP (by decide) h)
    exact hk 20000000000 (by omega)
   obtain ⟨r,e2,hr⟩:=nS ie cR (decide (n<0)) hz hd lo;have e:ck (decide (n<0)) (dv out)=n+m:=by
    rw [va,vb] at aQ;unfold ck;by_cases h0:n<0
    ·have h1:¬m<0:=fun h1=>DS (by simp [h0,h1])
     simp only [h0,yq,y5];omega
    ·have h1:m<0:=by
      by_cases h1:m<0
      ·exact h1
      ·exact absurd (by simp [h0,h1]) DS
     simp only [h0,yo,yD,yO];omega
   rw [e] at hr;obtain ⟨w2,l2,rfl,im,dU,iS,zT⟩:=hr;refine ⟨_,?_,w2,l2,rfl,im,dU,iS,zT⟩;unfold ae at e1 e2 ec ⊢;rw [av h];simp only [go_sem,ya,yb,Fl,aB,hx.pu,hx.ah,hx.one,hy.pu,hy.ah,hy.one,hz.ah,hz.shut,im.pu,im.one,aV,yd,bU,e1,oS,cQ,hs,ec,eh,e2,de,bl];rcases im with ⟨rfl,_⟩ | ⟨e,rfl⟩<;>rfl
end
end
section
open Go (IntKind)
section
variable {P:aG} {L:Lib}
def Sr {l:List Int} (hd:dg l) (hn:nz l) (h:dv l<1000000000):l.length<=1:=ix hd hn (by simpa using h)
def awn (h:Has P L 289 rL) (nV:Has P L 296 rM) (pf:Has P L 299 Bv) (cR:Has P L 300 lT) {v w:AV} {a b:List Int} (hv:br v a) (hw:br w b) (ha:dg a) (hb:dg b) (na:nz a) (nb:nz b) (la:a.length<=20000000000) (lb:b.length<=1) (h0:0<dv b):
  ∃q r lq lr,ae P L 289 [v,w] (.ap [q,r])/\br q lq/\br r lr/\dg lq/\nz lq/\dg lr/\nz lr/\dv lq=dv a/dv b/\dv lr=dv a%dv b:=by
 have ec:=UW nV hv hw ha hb na nb la (by omega);unfold ae at ec;by_cases hc:dv a<dv b
 ·have eh:eb (dv a) (dv b)= -1:=by unfold eb;rw [yI hc]
  rw [eh] at ec;refine ⟨.ab,v,[],a,?_,pZ,hv,rfl,rfl,ha,na,?_,?_⟩
  ·unfold ae;rw [av h];simp only [go_sem,ya,rL,hv.ah,hw.ah,ec,show (-1:Int)<0 by decide];rcases hv with ⟨rfl,_⟩ | ⟨e,rfl⟩<;>rfl
  ·rw [Nat.div_eq_of_lt hc];rfl
  ·rw [Nat.mod_eq_of_lt hc]
 ·have eh:¬eb (dv a) (dv b)<0:=by unfold eb;rw [yB hc];split<;>decide
  have ni:b.length=1:=by
   rcases xo b.length with e | e
   ·rw [yJ e] at h0;simp [dv] at h0
   ·omega
  obtain ⟨x,rfl⟩:∃x,b=[x]:=by
   cases b with
   | nil=>simp at ni
   | cons x r=>cases r with
    | nil=>exact ⟨x,rfl⟩
    | cons y r=>simp at ni
  have gx:=jF.1 hb;obtain ⟨d,hd⟩:∃d:Nat,x=d:=⟨x.toNat,by omega⟩;subst hd;have hdd:dv [((d:Nat):Int)]=d:=by simp [dv]
  rw [hdd] at h0 hc eh ec ⊢;obtain ⟨q,lq,e1,hq,hqs,awo,dq,nq,vq⟩:=agl pf cR hv ha la h0 (by omega);have afc:dv a%d<d:=xy _ h0;generalize dv a%d=m at*
  obtain ⟨r,e2,hr,Hf⟩:=Bz cR (fm true [(m:Int)]) (by simp);unfold ae at e1 e2;refine ⟨q,r,lq,et [(m:Int)],?_,hq,hr,dq,nq,AT (jF.2 (by omega)),Eo _,vq,by rw [sP];simp [dv]⟩;have e3:=hw.bk (i:=0) (by simp);simp only [yr,yE,yd,yU,List.map_nil,List.getElem_cons_zero] at e2 e3;unfold ae;rw [av h];simp only [go_sem,ya,yb,yt,ye,yh,rL,hv.ah,hw.len,hw.ah,ec,eh,yr,yE,show ((1:Nat):Int)=(1:Int) from rfl,yq,e3,e1,awo,e2,Hf];rcases hq with ⟨rfl,_⟩ | ⟨e,rfl⟩<;>rcases hr with ⟨rfl,_⟩ | ⟨e',rfl⟩<;>rfl
end
end
section
open Go (IntKind)
def sv:List Int->Int
 | []=>0
 | a::r=>a+1000000000*sv r
def ZT:∀(a b:List Int),sv (a++b)=sv a+1000000000^a.length*sv b
 | [],b=>by simp [sv]
 | x::a,b=>by
  simp only [List.cons_append,sv,ZT a b,yr,yar,ybn]
  grind
def asW (x:Int):sv [x]=x:=by simp [sv]
def ER:∀{l:List Int} {i:Nat} {x:Int},i<l.length->sv (l.set i x)=sv l+1000000000^i*(x-l.getD i 0)
 | [],i,x,h=>by simp at h
 | a::l,0,x,_=>by simp [sv];omega
 | a::l,i+1,x,h=>by
  have ih:=ER (l:=l) (i:=i) (x:=x) (by simpa using h);simp only [List.set_cons_succ,sv,List.getD_cons_succ,ih,yar,ybn]
  grind
def MX {l:List Int} (i:Nat):sv (l.take (i+1))=sv (l.take i)+1000000000^i*l.getD i 0:=by
 by_cases h:i<l.length
 ·rw [List.take_succ_eq_append_getElem h,ZT,yT,wu (by omega),asW]
  grind
 ·rw [yM (by omega),yM (by omega),H9 (by omega),Int.mul_zero,Int.add_zero]
def zD:∀{l:List Int},dg l->sv l=dv l
 | [],_=>rfl
 | a::l,h=>by
  obtain ⟨h1,h2⟩:=hJ.1 (show dg ([a]++l) from h);have h1:=jF.1 h1;simp only [sv,dv,zD h2,Int.natCast_add,wE];omega
section
variable {pre x post:List Int} {i:Nat}
def nI:(pre++x++post).length=pre.length+x.length+post.length:=by grind
def A9 (h:i<x.length):(pre++x++post).getD (pre.length+i) 0=x.getD i 0:=by grind
def Ng (a:Int) (h:i<x.length):(pre++x++post).set (pre.length+i) a=pre++x.set i a++post:=by simp_all
end
def adK {l:List Int} {i m:Nat} {x:Int} (h:i≠m):(l.set i x).getD m 0=l.getD m 0:=by simp_all
def alQ {l:List Int} {i:Nat} {x:Int} (h:i<l.length):(l.set i x).getD i 0=x:=by simp_all
abbrev H3 (q u:List Int) (f:Int):Hp:=[(2,.cells true true true 1 (q.map aa)),(1,.cells true true false 1 (u.map aa)),(0,.cells false true true 1 [aa f])]
def Mz {live:List Nat} {tm:Env} {ct:Nat} {a b c:List AV} (ht:jG 3 (df tm live)) (hl:(fy (df tm live)).length<100000):
  bD live ⟨tm,[(2,.cells true true true 1 a),(1,.cells true true false 1 b),(0,.cells false true true 1 c)],ct,3⟩=⟨df tm live,[(2,.cells true true true 1 a),(1,.cells true true false 1 b),(0,.cells false true true 1 c)],3,3⟩:=
 LI ht ⟨by omega,.inl rfl,by omega,.inl rfl,by omega,.inl rfl,trivial⟩ (by
  have:dz 3 [(2,Obj.cells true true true 1 a),(1,Obj.cells true true false 1 b),(0,Obj.cells false true true 1 c)]=[]:=rfl
  rw [this,yE,yX];exact hl)
structure gG (x vs:List Int) (n v1 v2 u0 u1 u2:Nat):Prop where
 n2:2<=n
 nb:n<=20000000000
 lx:x.length=n+1
 lv:vs.length=n
 gx:dg x
 gv:dg vs
 eG:vs.getD (n-1) 0=(v1:Int)
 cX:vs.getD (n-2) 0=(v2:Int)
 h0:x.getD n 0=(u0:Int)
 h1:x.getD (n-1) 0=(u1:Int)
 h2:x.getD (n-2) 0=(u2:Int)
 pos:0<v1
 lt:dv x<1000000000*dv vs
section
variable {x vs:List Int} {n v1 v2 u0 u1 u2:Nat}
def gG.KZ (h:gG x vs n v1 v2 u0 u1 u2):v1<1000000000:=by have:=iv h.gv (n-1);rw [h.eG] at this;omega
def gG.DG (h:gG x vs n v1 v2 u0 u1 u2):v2<1000000000:=by have:=iv h.gv (n-2);rw [h.cX] at this;omega
def gG.WB (h:gG x vs n v1 v2 u0 u1 u2):u0<1000000000:=by have:=iv h.gx n;rw [h.h0] at this;omega
def gG.K0 (h:gG x vs n v1 v2 u0 u1 u2):u1<1000000000:=by have:=iv h.gx (n-1);rw [h.h1] at this;omega
def gG.K1 (h:gG x vs n v1 v2 u0 u1 u2):u2<1000000000:=by have:=iv h.gx (n-2);rw [h.h2] at this;omega
def gG.parts (h:gG x vs n v1 v2 u0 u1 u2):∃p vr ur,dv vs=(v1*1000000000+v2)*p+vr/\vr<p/\dv x=((u0*1000000000+u1)*1000000000+u2)*p+ur/\ur<p:=by
 obtain ⟨m,hm⟩:∃m,n=m+2:=⟨n-2,by have:=h.n2;omega⟩;subst hm;have e1:=oG (l:=vs) (m+1);have e2:=oG (l:=vs) m;have f0:=oG (l:=x) (m+2);have f1:=oG (l:=x) (m+1);have f2:=oG (l:=x) m;have eG:vs.getD (m+1) 0=(v1:Int):=h.eG;have cX:vs.getD m 0=(v2:Int):=h.cX;have h0:x.getD (m+2) 0=(u0:Int):=h.h0;have h1:x.getD (m+1) 0=(u1:Int):=h.h1;have h2:x.getD m 0=(u2:Int):=h.h2
 rw [yM (by have:=h.lv;omega),eG,e2,cX] at e1
 rw [yM (by have:=h.lx;omega),h0,f1,h1,f2,h2] at f0;simp only [xI] at e1 f0;have g1:=jL (Cu h.gv m)
 rw [yT,wu (by have:=h.lv;omega)] at g1;have g2:=jL (Cu h.gx m)
 rw [yT,wu (by have:=h.lx;omega)] at g2;refine ⟨1000000000^m,_,_,?_,g1,?_,g2⟩
 ·rw [e1,xg,auo]
 ·rw [f0,show 1000000000^(m+2)=1000000000^m*1000000000*1000000000 by rw [xg,xg],xg,aup]
def gG.down (h:gG x vs n v1 v2 u0 u1 u2) {t r:Nat} (ht:t*v1+r=u0*1000000000+u1) (hr:r*1000000000+u2<t*v2):dv x/dv vs<=t-1:=by
 obtain ⟨p,vr,ur,h1,h2,h3,h4⟩:=h.parts;exact YQ h1 h3 h4 ht hr
def gG.stop (h:gG x vs n v1 v2 u0 u1 u2) {t r:Nat} (kH:t<1000000000) (ht:t*v1+r=u0*1000000000+u1) (hr:1000000000<=r\/t*v2<=r*1000000000+u2):t<=dv x/dv vs+1:=by
 obtain ⟨p,vr,ur,h1,h2,h3,h4⟩:=h.parts;exact ZC (by decide) h1 h2 h3 h.pos h.DG kH ht hr
def gG.first (h:gG x vs n v1 v2 u0 u1 u2):dv x/dv vs<=(u0*1000000000+u1)/v1:=by
 obtain ⟨p,vr,ur,h1,h2,h3,h4⟩:=h.parts;exact QG h1 h3 h4 h.K1 h.pos
def gG.top (h:gG x vs n v1 v2 u0 u1 u2):u0<=v1:=by
 obtain ⟨p,vr,ur,h1,h2,h3,h4⟩:=h.parts;exact ZD h1 h3 h2 h.DG h.lt
def gG.digit (h:gG x vs n v1 v2 u0 u1 u2):dv x/dv vs<1000000000:=by
 refine (wz ?_).2 h.lt;rcases xo (dv vs) with h0 | h0
 ·have:=h.lt;rw [h0] at this;simp at this
 ·exact h0
def gG.small (h:gG x vs n v1 v2 u0 u1 u2) {t r:Nat} (ht:t*v1+r=u0*1000000000+u1) (hb:1000000000<=t):r<1000000000:=by
 have h1:=h.top;have h2:=h.K0;have h3:=yW v1 hb
 grind
end
def awp {r u:Nat} (hr:r<1000000000) (hu:u<1000000000):r*1000000000<9223372036854775808/\r*1000000000+u<9223372036854775808:=by omega
section
variable {P:aG} {L:Lib}
def aqi {w:AV} {x vs pre post qs:List Int} {f:Int} (hw:br w vs) {n v1 v2 u0 u1 u2 M:Nat} (hl:gG x vs n v1 v2 u0 u1 u2) (hM:M=pre.length+x.length+post.length) (Lf:M<=50000000000):
  ∀k s,(∃t r:Nat,bD [0,1,2,7,9,10] s=⟨[(0,.an 1 0 M),(1,w),(2,aa pre.length),(7,aa n),(9,aa t),(10,aa r)],H3 qs (pre++x++post) f,3,3⟩/\t*v1+r=u0*1000000000+u1/\r<1000000000/\dv x/dv vs<=t/\t=k)->
   ∃ex s',D P L (.loop [0,1,2,7,9,10] A7) s=some (ex,s')/\∃tm ct t,s'=⟨tm,H3 qs (pre++x++post) f,ct,3⟩/\((ex= .exit 0/\af tm 9=aa (t:Nat))\/(ex= .ret/\af tm 6=aa (t:Nat)))/\ct=3/\t<1000000000/\dv x/dv vs<=t/\t<=dv x/dv vs+1:=by
 refine cg (I:=fun k s=>∃t r:Nat,s=⟨[(0,.an 1 0 M),(1,w),(2,aa pre.length),(7,aa n),(9,aa t),(10,aa r)],H3 qs (pre++x++post) f,3,3⟩/\t*v1+r=u0*1000000000+u1/\r<1000000000/\dv x/dv vs<=t/\t=k)
  (Q:=fun ex s'=>∃tm ct t,s'=⟨tm,H3 qs (pre++x++post) f,ct,3⟩/\((ex= .exit 0/\af tm 9=aa (t:Nat))\/(ex= .ret/\af tm 6=aa (t:Nat)))/\ct=3/\t<1000000000/\dv x/dv vs<=t/\t<=dv x/dv vs+1) ?_
 rintro k s ⟨t,r,rfl,ht,hr,hQ,rfl⟩;have eH:=hl.n2;have pI:=hl.nb;have hlx:=hl.lx;have Fy:=hl.KZ;have Ux:=hl.DG;have afR:=hl.K1;have awq:=hl.WB;have ON:=hl.K0;have BG:=hl.pos;have pM:=qv hw (i:=n-2) (by have:=hl.lv;omega);have fh:=qv hw (i:=n-1) (by have:=hl.lv;omega);rw [hl.cX] at pM;rw [hl.eG] at fh;have sH:=rE (l:=pre++x++post) (o:=pre.length+(n-2)) (by rw [nI];omega);rw [A9 (by omega),hl.h2] at sH;have Au:(n:Int)-2=((n-2:Nat):Int):=by omega
 have pN:(n:Int)-1=((n-1:Nat):Int):=by omega
 have Lg:(pre.length:Int)+(n:Int)=((pre.length+n:Nat):Int):=rfl;have Xg:((pre.length+n:Nat):Int)-2=((pre.length+(n-2):Nat):Int):=by omega
 have aAP:t<=1000000000000000000:=by
  have:=yS t BG
  omega
 have aAQ:t*1<=t*v1:=yS t BG;obtain ⟨Xh,Xi⟩:=awp hr afR;by_cases sF:1000000000<=t\/r*1000000000+u2<t*v2
 ·have Xj:0<t:=by
   rcases xo t with h0 | h0
   ·subst h0;omega
   ·exact h0
  have h1:(t-1)*v1+(r+v1)=u0*1000000000+u1:=by
   obtain ⟨p,rfl⟩:∃p,t=p+1:=⟨t-1,by omega⟩;rw [wj,Nat.one_mul] at ht;rw [Nat.add_sub_cancel];omega
  have Aw:dv x/dv vs<=t-1:=by
   rcases sF with h | h
   ·have:=hl.digit;generalize dv x/dv vs=q at*;omega
   ·exact hl.down ht h
  have Qo:((t:Nat):Int)-1=((t-1:Nat):Int):=by omega
  have stop:1000000000<=r+v1->t-1<1000000000/\t-1<=dv x/dv vs+1:=fun hb=>by
   have bi:t-1<1000000000:=by
    by_cases sd:1000000000<=t-1
    ·have:=hl.small h1 sd;omega
    ·omega
   exact ⟨bi,hl.stop bi h1 (.inl hb)⟩
  by_cases hb:1000000000<=t
  ·by_cases fe:1000000000<=r+v1
   ·right
    obtain ⟨s1,s2⟩:=stop fe
    simp only [go_sem,ya,A7,H3,show (1000000000:Int)<=(t:Int) by omega,Qo,wrapN (n:=t-1) (by omega),pN,wrapN (n:=n-1) (by omega),fh,show (r:Int)+(v1:Int)=((r+v1:Nat):Int) from rfl,wrapN (n:=r+v1) (by omega),show (1000000000:Int)<=((r+v1:Nat):Int) by omega];exact ⟨_,_,rfl,by simp,_,_,t-1,rfl,.inr ⟨rfl,by simp only [go_sem]⟩,rfl,s1,Aw,s2⟩
   ·left
    simp only [go_sem,ya,A7,H3,show (1000000000:Int)<=(t:Int) by omega,Qo,wrapN (n:=t-1) (by omega),pN,wrapN (n:=n-1) (by omega),fh,show (r:Int)+(v1:Int)=((r+v1:Nat):Int) from rfl,wrapN (n:=r+v1) (by omega),show ¬(1000000000:Int)<=((r+v1:Nat):Int) by omega];refine ⟨_,t-1,rfl,by omega,t-1,r+v1,?_,h1,by omega,Aw,rfl⟩;rw [Mz (by simp only [go_sem,ya,yt,mv,mW,ml,mj,mg hw.pu,wi]) (by simp only [go_sem,ya,yb,yt,aJ hw.pu])];simp only [go_sem,ya]
  ·have qO:=wU (show t<=999999999 by omega) (show v2<=999999999 by omega);have UY:r*1000000000+u2<t*v2:=sF.resolve_left hb;obtain ⟨m,hm⟩:∃m,t*v2=m:=⟨_,rfl⟩;have em:(t:Int)*(v2:Int)=(m:Int):=by rw [<-hm,wE]
   rw [hm] at UY qO;have F7:(r:Int)*1000000000=((r*1000000000:Nat):Int):=by omega
   have BY:((r*1000000000:Nat):Int)+(u2:Int)=((r*1000000000+u2:Nat):Int):=rfl;by_cases fe:1000000000<=r+v1
   ·right
    obtain ⟨s1,s2⟩:=stop fe
    simp only [go_sem,ya,yh,A7,H3,show ¬(1000000000:Int)<=(t:Int) by omega,Au,wrapN (n:=n-2) (by omega),pM,em,wrapN (n:=m) (by omega),F7,wrapN Xh,Lg,wrapN (n:=pre.length+n) (by omega),Xg,wrapN (n:=pre.length+(n-2)) (by omega),dj 1 0 (show pre.length+(n-2)<M by omega),yd,sH,BY,wrapN Xi,show ((r*1000000000+u2:Nat):Int)<(m:Int) from uo.2 UY,Qo,wrapN (n:=t-1) (by omega),pN,wrapN (n:=n-1) (by omega),fh,show (r:Int)+(v1:Int)=((r+v1:Nat):Int) from rfl,wrapN (n:=r+v1) (by omega),show (1000000000:Int)<=((r+v1:Nat):Int) by omega];exact ⟨_,_,rfl,by simp,_,_,t-1,rfl,.inr ⟨rfl,by simp only [go_sem]⟩,rfl,s1,Aw,s2⟩
   ·left
    simp only [go_sem,ya,yh,A7,H3,show ¬(1000000000:Int)<=(t:Int) by omega,Au,wrapN (n:=n-2) (by omega),pM,em,wrapN (n:=m) (by omega),F7,wrapN Xh,Lg,wrapN (n:=pre.length+n) (by omega),Xg,wrapN (n:=pre.length+(n-2)) (by omega),dj 1 0 (show pre.length+(n-2)<M by omega),yd,sH,BY,wrapN Xi,show ((r*1000000000+u2:Nat):Int)<(m:Int) from uo.2 UY,Qo,wrapN (n:=t-1) (by omega),pN,wrapN (n:=n-1) (by omega),fh,show (r:Int)+(v1:Int)=((r+v1:Nat):Int) from rfl,wrapN (n:=r+v1) (by omega),show ¬(1000000000:Int)<=((r+v1:Nat):Int) by omega];refine ⟨_,t-1,rfl,by omega,t-1,r+v1,?_,h1,by omega,Aw,rfl⟩;rw [Mz (by simp only [go_sem,ya,yt,mv,mW,ml,mj,mg hw.pu,wi]) (by simp only [go_sem,ya,yb,yt,aJ hw.pu])];simp only [go_sem,ya]
 ·right
  have kH:t<1000000000:=Nat.lt_of_not_le fun e=>sF (.inl e)
  have qO:=wU (show t<=999999999 from uQ kH) (show v2<=999999999 from uQ Ux);have UZ:t*v2<=r*1000000000+u2:=Nat.le_of_not_lt fun e=>sF (.inr e)
  have auA:=hl.stop kH ht (.inr UZ);obtain ⟨m,hm⟩:∃m,t*v2=m:=⟨_,rfl⟩;have em:(t:Int)*(v2:Int)=(m:Int):=by rw [<-hm,wE]
  rw [hm] at UZ qO;have F7:(r:Int)*1000000000=((r*1000000000:Nat):Int):=by omega
  have BY:((r*1000000000:Nat):Int)+(u2:Int)=((r*1000000000+u2:Nat):Int):=rfl
  simp only [go_sem,ya,yh,A7,H3,show ¬(1000000000:Int)<=(t:Int) by omega,Au,wrapN (n:=n-2) (by omega),pM,em,wrapN (n:=m) (by omega),F7,wrapN Xh,Lg,wrapN (n:=pre.length+n) (by omega),Xg,wrapN (n:=pre.length+(n-2)) (by omega),dj 1 0 (show pre.length+(n-2)<M by omega),yd,sH,BY,wrapN Xi,show ¬((r*1000000000+u2:Nat):Int)<(m:Int) from fun e=>Nat.not_lt_of_le UZ (uo.1 e)];exact ⟨_,_,rfl,by simp,_,_,t,rfl,.inl ⟨rfl,by simp only [go_sem,ya]⟩,rfl,kH,hQ,auA⟩
def auB (h:Has P L 301 zN) {w:AV} {x vs pre post qs:List Int} {f:Int} (hw:br w vs) {n v1 v2 u0 u1 u2 M:Nat} (hl:gG x vs n v1 v2 u0 u1 u2) (hM:M=pre.length+x.length+post.length) (Lf:M<=50000000000):
  ∃t:Nat,iH P L (D P L) (H3 qs (pre++x++post) f) 3 301 [.an 1 0 M,w,aa pre.length]=some (aa t,H3 qs (pre++x++post) f,3)/\t<1000000000/\dv x/dv vs<=t/\t<=dv x/dv vs+1:=by
 have eH:=hl.n2;have pI:=hl.nb;have hlx:=hl.lx;have sI:below 3 w:=mg hw.pu;have Fy:=hl.KZ;have awq:=hl.WB;have ON:=hl.K0;have BG:=hl.pos;have fh:=qv hw (i:=n-1) (by have:=hl.lv;omega);rw [hl.eG] at fh;have B0:=rE (l:=pre++x++post) (o:=pre.length+n) (by rw [nI];omega);rw [A9 (by omega),hl.h0] at B0;have B1:=rE (l:=pre++x++post) (o:=pre.length+(n-1)) (by rw [nI];omega);rw [A9 (by omega),hl.h1] at B1;have pN:(n:Int)-1=((n-1:Nat):Int):=by omega
 have Lg:(pre.length:Int)+(n:Int)=((pre.length+n:Nat):Int):=rfl;have pn1:((pre.length+n:Nat):Int)-1=((pre.length+(n-1):Nat):Int):=by omega
 obtain ⟨m,hm⟩:∃m,m=u0*1000000000+u1:=⟨_,rfl⟩;have em:(u0:Int)*1000000000=((u0*1000000000:Nat):Int):=by omega
 have em2:((u0*1000000000:Nat):Int)+(u1:Int)=(m:Int):=by omega
 have eO:=wq m v1;have pc:=xy m BG;have Na:=hl.first;rw [<-hm] at Na;have aA3:m/v1<=m:=Nat.div_le_self _ _;have oq:IntKind.wrap .i64 ((m:Int).tdiv (v1:Int))=((m/v1:Nat):Int):=by
  rw [xK (by omega),<-Int.natCast_ediv,wrapN (by omega)]
 have or':(m:Int).tmod (v1:Int)=((m%v1:Nat):Int):=by rw [xn (by omega),<-Int.natCast_emod]
 rw [xE] at eO;generalize m/v1=q0 at*
 generalize m%v1=r0 at*
 have je:∃ex tm t,D P L zN.body ⟨fG 0 [.an 1 0 M,w,aa pre.length],H3 qs (pre++x++post) f,3,3⟩=some (ex,⟨tm,H3 qs (pre++x++post) f,3,3⟩)/\(ex= .normal\/ex= .ret)/\af tm 6=aa (t:Nat)/\t<1000000000/\dv x/dv vs<=t/\t<=dv x/dv vs+1:=by
  simp only [go_sem,ya,yh,zN,H3,hw.len,hl.lv,Lg,wrapN (n:=pre.length+n) (by omega),dj 1 0 (show pre.length+n<M by omega),yd,B0,em,wrapN (n:=u0*1000000000) (by omega),pn1,wrapN (n:=pre.length+(n-1)) (by omega),dj 1 0 (show pre.length+(n-1)<M by omega),B1,em2,wrapN (n:=m) (by omega),pN,wrapN (n:=n-1) (by omega),fh,eU _ _ _ (show (v1:Int)≠0 by omega),er _ _ _ (show (v1:Int)≠0 by omega),oq,or'];generalize mQ:D P L (.loop [0,1,2,7,9,10] A7) _=qq;obtain ⟨ex,s,rfl,tm,ct,t,rfl,oW,rfl,g1,g2,g3⟩:=bP mQ (aqi (P:=P) (L:=L) (qs:=qs) (f:=f) hw hl hM Lf q0) ⟨q0,r0,by
   rw [Mz (by simp only [go_sem,ya,yt,mv,mW,ml,mj,sI,wi]) (by simp only [go_sem,ya,yb,yt,aJ hw.pu])]
   simp only [go_sem,ya],by omega,by omega,Na,rfl⟩
  rcases oW with ⟨rfl,h9⟩ | ⟨rfl,h6⟩
  ·simp only [go_sem,yt,H3,Mz,mv,ml,mj,h9,and_self];exact ⟨_,_,t,rfl,.inr rfl,by simp only [go_sem],g1,g2,g3⟩
  ·simp only [go_sem];exact ⟨_,_,t,rfl,.inr rfl,h6,g1,g2,g3⟩
 obtain ⟨ex,tm,t,g1,g2,g3,g4,g5,g6⟩:=je;exact ⟨t,Er h g1 g2 (by show gN _ [RV.t 6]=_;rw [Fv,E2,g3]),g4,g5,g6⟩
end
end
end VE
