import Derived.Test.YtflgmingejdfnaaGreatDoorVaq
import Derived.Test.YtflgmingejdfnaaGreatDoorVap
set_option linter.all false
set_option maxRecDepth 100000
open BitVec renaming ofInt→xF,ofInt_natCast→vZ,ofNat→vY,toNat_ofNat→vm
open Bool renaming false_eq_true→yC
open Go renaming IntKind→yU
open Int renaming natCast_mul→vh,toNat_natCast→wC
open List renaming cons_append→y8,drop_eq_getElem_cons→yO,drop_eq_nil_of_le→xj,filter_cons→yaz,filter_eq_nil_iff→tr,length_cons→yv,length_reverse→tW,mem_append→wQ,mem_singleton→vc,nil_append→xS,range'→xH,range'_succ→vJ,replicate→yA,reverse_cons→yan,take_length→wz,take_of_length_le→yL
open Nat renaming add_mul→wG,add_zero→yX,blt→yG,div_add_mod→wB,div_le_self→uy,div_lt_iff_lt_mul→xZ,le_of_lt→tc,le_refl→yD,lt_of_le_of_lt→wD,min_eq_left→wE,mod_eq_of_lt→yP,mod_lt→xC,mul_add→xD,mul_assoc→xk,mul_comm→xN,mul_div_mul_right→tP,mul_le_mul→vd,mul_le_mul_left→yS,mul_le_mul_right→yZ,mul_lt_mul_of_pos_right→wH,mul_one→yi,mul_zero→xJ,pow_add→wP,pow_succ→xg,reduceAdd→yb,reduceEqDiff→ya,reduceMul→xR,two_pow_pos→wK,zero_add→yd
namespace VE
section
open Go (IntKind)
def K0 (p b s:Nat):p*(s%b)+p*b*(s/b)=p*s:=by
 rw [xk,<-xD,Nat.mod_add_div]
def akA {b:Nat} {x y out:List Nat} {i c:Nat} (hi:i<out.length) (hz:out.getD i 0=0) (hv:bv b out+b^i*c=bv b (x.take i)+bv b (y.take i)):
  bv b (out.set i ((x.getD i 0+y.getD i 0+c)%b))+b^(i+1)*((x.getD i 0+y.getD i 0+c)/b)=bv b (x.take (i+1))+bv b (y.take (i+1)):=by
 have h1:=nC (b:=b) (x:=(x.getD i 0+y.getD i 0+c)%b) hi;have h2:=K0 (b^i) b (x.getD i 0+y.getD i 0+c);rw [hz,xJ,yX] at h1;rw [iV,iV,xg,h1]
 grind
def akB {b:Nat} {x y out:List Nat} {i c z c':Nat} (hi:i<out.length) (hz:out.getD i 0=0) (hs:z+y.getD i 0+c=x.getD i 0+b*c') (hv:bv b out+bv b (y.take i)=bv b (x.take i)+b^i*c):
  bv b (out.set i z)+bv b (y.take (i+1))=bv b (x.take (i+1))+b^(i+1)*c':=by
 have h1:=nC (b:=b) (x:=z) hi;rw [hz,xJ,yX] at h1;rw [iV,iV,xg,h1]
 grind
section
variable {P:aK} {L:Lib}
def afc (h:Has P L 158 ER) {v w:AV} {x y:List Nat} (hv:bJ v x) (hw:bJ w y) (hx:lo 18446744073709551616 x) (hy:lo 18446744073709551616 y) (nx:fX x) (ny:fX y) (lx:x.length<=100000000000) (ly:y.length<=100000000000):
  ae P L 158 [v,w] (aa (dX (bv 18446744073709551616 x) (bv 18446744073709551616 y))):=by
 unfold ae;rw [av h];by_cases hlen:x.length=y.length
 ·have key:=cC (P:=P) (L:=L) (live:=[0,1,5]) (a:=Cp)
   (I:=fun k st=>∃j:Nat,st=⟨[(0,v),(1,w),(5,aa ((j:Int)-1))],[],0,0⟩/\j<=x.length/\j=k/\x.drop j=y.drop j)
   (Q:=fun ex st=>∃tm ct,st=⟨tm,[],ct,0⟩/\((ex= .ret/\af tm 4=aa (dX (bv 18446744073709551616 x) (bv 18446744073709551616 y)))\/(ex= .exit 0/\x=y))) ?_
  ·simp only [go_sem,ya,ER,hv.len,hw.len,show (x.length:Int)=y.length by omega];generalize hq:D P L (.loop [0,1,5] Cp) _=q;obtain ⟨ex,st,rfl,tm,ct,rfl,h2⟩:=cd hq (key x.length) ⟨x.length,by
    rw [wrap64 (by omega) (by omega),hlen]
    simp only [go_sem,ya,aD,aM hv.pu,aQ _ hv.pu,aM hw.pu,aQ _ hw.pu]<;>rfl,yD _,rfl,by rw [xj (yD _),xj (by omega)]⟩
   rcases h2 with ⟨rfl,h2⟩ | ⟨rfl,h2⟩
   ·simp only [go_sem,h2]
   ·simp only [go_sem,aD];subst h2;simp [dX]
  ·rintro k st ⟨j,rfl,hj,rfl,he⟩
   cases j with
   | zero=>
    right
    simp only [go_sem,ya,Cp,show ¬(0:Int)<=((0:Nat):Int)-1 by omega];exact ⟨_,_,rfl,by simp,_,_,rfl,.inr ⟨rfl,by simpa using he⟩⟩
   | succ i=>
    have h1:i<x.length:=by omega
    have h2:i<y.length:=by omega
    have Fi:=aa5 hx h1 h2 he;have bi:=aa5 hy h2 h1 he.symm;by_cases c0:x.getD i 0=y.getD i 0
    ·left
     simp only [go_sem,ya,Cp,show ((i+1:Nat):Int)-1=(i:Int) by omega,show (0:Int)<=(i:Int) by omega,hv.bj h1,hw.bj h2,c0];refine ⟨_,i,rfl,by omega,i,?_,by omega,rfl,?_⟩
     ·rw [wrap64 (by omega) (by omega)];simp only [go_sem,ya,aD,aM hv.pu,aQ _ hv.pu,aM hw.pu,aQ _ hw.pu]<;>rfl
     ·rw [yO h1,yO h2,he,gd h1,gd h2,c0]
    ·by_cases c1:x.getD i 0<y.getD i 0
     ·right
      simp only [go_sem,ya,Cp,show ((i+1:Nat):Int)-1=(i:Int) by omega,show (0:Int)<=(i:Int) by omega,hv.bj h1,hw.bj h2,show ¬((x.getD i 0:Nat):Int)=(y.getD i 0:Nat) by omega,show ((x.getD i 0:Nat):Int)<(y.getD i 0:Nat) by omega];refine ⟨_,_,rfl,by simp,_,_,rfl,.inl ⟨rfl,?_⟩⟩;simp only [go_sem];unfold dX;rw [yJ (Fi c1)]
     ·right
      simp only [go_sem,ya,Cp,show ((i+1:Nat):Int)-1=(i:Int) by omega,show (0:Int)<=(i:Int) by omega,hv.bj h1,hw.bj h2,show ¬((x.getD i 0:Nat):Int)=(y.getD i 0:Nat) by omega,show ¬((x.getD i 0:Nat):Int)<(y.getD i 0:Nat) by omega];refine ⟨_,_,rfl,by simp,_,_,rfl,.inl ⟨rfl,?_⟩⟩;simp only [go_sem];unfold dX;rw [yz (by omega),yJ (by omega)]
 ·by_cases c1:x.length<y.length
  ·have:=LR (b:=18446744073709551616) (by decide) hx ny c1
   simp only [go_sem,ya,ER,hv.len,hw.len,show ¬(x.length:Int)=y.length by omega,show (x.length:Int)<y.length by omega];unfold dX;rw [yJ this]
  ·have:=LR (b:=18446744073709551616) (by decide) hy nx (show y.length<x.length by omega)
   simp only [go_sem,ya,ER,hv.len,hw.len,show ¬(x.length:Int)=y.length by omega,show ¬(x.length:Int)<y.length by omega];unfold dX;rw [yz (by omega),yJ this]
def acT (gE:L.pure 171=some nA) {v w:AV} {x y:List Nat} (hv:bJ v x) (hw:bJ w y) (hx:lo 18446744073709551616 x) (hy:lo 18446744073709551616 y) (lx:x.length<=99999999999) (ly:y.length<=x.length) {n:Nat} (hn:n=x.length+1):
  ∀k s,(∃(i c:Nat) (out:List Nat),bH [0,1,5,6,21,22] s=⟨[(0,v),(1,w),(5,.ak 0 0 n),(6,uc c),(21,aa x.length),(22,aa i)],[(0,.cells true true true 1 (out.map uc))],1,0⟩/\i+k=x.length/\out.length=n/\c<=1/\lo 18446744073709551616 out/\
    bv 18446744073709551616 out+18446744073709551616^i*c=bv 18446744073709551616 (x.take i)+bv 18446744073709551616 (y.take i)/\(∀m,i<=m->out.getD m 0=0))->
   ∃ex s',D P L (.loop [0,1,5,6,21,22] Co) s=some (ex,s')/\∃tm c out,s'=⟨tm,[(0,.cells true true true 1 (out.map uc))],1,0⟩/\ex= .exit 0/\af tm 0=v/\af tm 5= .ak 0 0 n/\af tm 6=uc c/\out.length=n/\c<=1/\lo 18446744073709551616 out/\
    bv 18446744073709551616 out+18446744073709551616^x.length*c=bv 18446744073709551616 x+bv 18446744073709551616 y/\out.getD x.length 0=0:=by
 refine cC (I:=fun k s=>∃(i c:Nat) (out:List Nat),s=⟨[(0,v),(1,w),(5,.ak 0 0 n),(6,uc c),(21,aa x.length),(22,aa i)],[(0,.cells true true true 1 (out.map uc))],1,0⟩/\i+k=x.length/\out.length=n/\c<=1/\lo 18446744073709551616 out/\
    bv 18446744073709551616 out+18446744073709551616^i*c=bv 18446744073709551616 (x.take i)+bv 18446744073709551616 (y.take i)/\(∀m,i<=m->out.getD m 0=0))
  (Q:=fun ex s'=>∃tm c out,s'=⟨tm,[(0,.cells true true true 1 (out.map uc))],1,0⟩/\ex= .exit 0/\af tm 0=v/\af tm 5= .ak 0 0 n/\af tm 6=uc c/\out.length=n/\c<=1/\lo 18446744073709551616 out/\
    bv 18446744073709551616 out+18446744073709551616^x.length*c=bv 18446744073709551616 x+bv 18446744073709551616 y/\out.getD x.length 0=0) ?_
 rintro k s ⟨i,c,out,rfl,hk,hlen,hc,bn,aT,fY⟩;by_cases hi:i<x.length
 ·left
  have hz:=fY i (yD _);have kK:=akA (x:=x) (y:=y) (show i<out.length by omega) hz aT;have gx:=gm (show 0<18446744073709551616 by decide) hx i;have gy:=gm (show 0<18446744073709551616 by decide) hy i;have e1:=Cy (P:=P) (f:=D P L) gE gx gy hc;have ex:=hv.bj hi;generalize x.getD i 0=p at*
  by_cases hj:i<y.length
  ·have ey:=hw.bj hj;generalize y.getD i 0=q at*
   simp only [go_sem,ya,yi,Co,hw.len,show (i:Int)<x.length by omega,show (i:Int)<y.length by omega,ex,ey,e1,dd 0 0 (show i<n by omega),yd,kj (l:=out) (o:=i) (by omega)]
   refine ⟨_,k-1,rfl,by omega,i+1,(p+q+c)/18446744073709551616,_,?_,by omega,by simp [hlen],by omega,me bn (x:=(p+q+c)%18446744073709551616) (i:=i) (by omega),kK,fun m hm=>?_⟩
   ·rw [wrap64 (by omega) (by omega)];simp only [go_sem,ya,yb,aD,aM hv.pu,aQ _ hv.pu,aM hw.pu,aQ _ hw.pu]<;>rfl
   ·rw [oA (by omega)];exact fY m (by omega)
  ·have iD:y.getD i 0=0:=RE (by omega);rw [iD] at kK e1;rw [show (uc 0)=AV.int .u64 0 from rfl] at e1
   simp only [go_sem,ya,yi,Co,hw.len,show (i:Int)<x.length by omega,show ¬(i:Int)<y.length by omega,ex,e1,dd 0 0 (show i<n by omega),yd,kj (l:=out) (o:=i) (by omega)]
   refine ⟨_,k-1,rfl,by omega,i+1,(p+0+c)/18446744073709551616,_,?_,by omega,by simp [hlen],by omega,me bn (x:=(p+0+c)%18446744073709551616) (i:=i) (by omega),kK,fun m hm=>?_⟩
   ·rw [wrap64 (by omega) (by omega)];simp only [go_sem,ya,yb,aD,aM hv.pu,aQ _ hv.pu,aM hw.pu,aQ _ hw.pu]<;>rfl
   ·rw [oA (by omega)];exact fY m (by omega)
 ·right
  have:i=x.length:=by omega
  subst this;rw [wz,yL ly] at aT;simp only [go_sem,ya,Co,show ¬(x.length:Int)<x.length by omega];exact ⟨_,_,rfl,by simp,_,c,out,rfl,rfl,by simp only [go_sem,ya],by simp only [go_sem,ya],by simp only [go_sem,ya],hlen,hc,bn,aT,fY _ (yD _)⟩
def auy (h:Has P L 157 IR) (my:Has P L 166 Be) (gE:L.pure 171=some nA) {v w:AV} {x y:List Nat} (hv:bJ v x) (hw:bJ w y) (hx:lo 18446744073709551616 x) (hy:lo 18446744073709551616 y) (lx:x.length<=99999999999) (ly:y.length<=99999999999):
  ∃r out,ae P L 157 [v,w] r/\bJ r out/\lo 18446744073709551616 out/\fX out/\bv 18446744073709551616 out=bv 18446744073709551616 x+bv 18446744073709551616 y:=by
 have fin:∀{x y o:List Nat} {n c:Nat},n=x.length+1->x.length<=99999999999->o.length=n->c<=1->lo 18446744073709551616 o->bv 18446744073709551616 o+18446744073709551616^x.length*c=bv 18446744073709551616 x+bv 18446744073709551616 y->o.getD x.length 0=0->
   ∃r,bR P L (D P L) 166 [.aE true n ((o.set x.length c).map uc)]=some r/\bJ r (eb (o.set x.length c))/\lo 18446744073709551616 (eb (o.set x.length c))/\fX (eb (o.set x.length c))/\bv 18446744073709551616 (eb (o.set x.length c))=bv 18446744073709551616 x+bv 18446744073709551616 y:=by
  intro x y o n c hn lx hlen hc bn aT hz;have aY:=nC (b:=18446744073709551616) (l:=o) (i:=x.length) (x:=c) (by omega);rw [hz,xJ,yX,aT] at aY;have auz:lo 18446744073709551616 (o.set x.length c):=me bn (by omega);have hf:=mM true (o.set x.length c);rw [List.length_set,hlen] at hf;obtain ⟨r,e1,hr⟩:=Bo my hf (by simp;omega);exact ⟨r,e1,hr,AI auz,AH _,by rw [AG];exact aY⟩
 by_cases hl:x.length<y.length
 ·obtain ⟨n,hn⟩:∃n,n=y.length+1:=⟨_,rfl⟩;unfold ae;rw [av h]
  simp only [go_sem,ya,yb,IR,hv.len,hw.len,show (x.length:Int)<y.length by omega,wrapN (n:=n) (by omega),show (y.length:Int)+1=((y.length+1:Nat):Int) from rfl,<-hn,CX (n:=n) _ (by omega)];generalize hq:D P L (.loop [0,1,5,6,21,22] Co) _=q;obtain ⟨ex,s,rfl,tm,c,o,rfl,rfl,t0,t5,t6,hlen,hc,bn,aT,hz⟩:=cd hq (acT (P:=P) (L:=L) gE hw hv hy hx ly (by omega) hn y.length)
   ⟨0,0,yA n 0,by simp only [go_sem,ya,yb,aD,aM hv.pu,aQ _ hv.pu,aM hw.pu,aQ _ hw.pu]<;>rfl,by omega,by simp,by omega,Eh (by decide) n,by rw [Ei];simp [bv],fun m _=>Ci n m⟩
  obtain ⟨r,e1,hr,f1,f2,f3⟩:=fin hn ly hlen hc bn aT hz;refine ⟨r,_,?_,hr,f1,f2,by rw [f3];omega⟩
  simp only [go_sem,ya,yi,aD,aM hw.pu,aQ _ hw.pu,hw.len,t0,t5,t6,dd 0 0 (show y.length<n by omega),yd,kj (l:=o) (o:=y.length) (by omega)]
  simp only [go_sem,Bn _ (n:=n) (l:=o.set y.length c) (by simp [hlen]) true,e1,hr.shut,hr.dn]
 ·obtain ⟨n,hn⟩:∃n,n=x.length+1:=⟨_,rfl⟩;unfold ae;rw [av h]
  simp only [go_sem,ya,yb,IR,hv.len,hw.len,show ¬(x.length:Int)<y.length by omega,wrapN (n:=n) (by omega),show (x.length:Int)+1=((x.length+1:Nat):Int) from rfl,<-hn,CX (n:=n) _ (by omega)];generalize hq:D P L (.loop [0,1,5,6,21,22] Co) _=q;obtain ⟨ex,s,rfl,tm,c,o,rfl,rfl,t0,t5,t6,hlen,hc,bn,aT,hz⟩:=cd hq (acT (P:=P) (L:=L) gE hv hw hx hy lx (by omega) hn x.length)
   ⟨0,0,yA n 0,by simp only [go_sem,ya,yb,aD,aM hv.pu,aQ _ hv.pu,aM hw.pu,aQ _ hw.pu]<;>rfl,by omega,by simp,by omega,Eh (by decide) n,by rw [Ei];simp [bv],fun m _=>Ci n m⟩
  obtain ⟨r,e1,hr,f1,f2,f3⟩:=fin hn lx hlen hc bn aT hz;refine ⟨r,_,?_,hr,f1,f2,f3⟩
  simp only [go_sem,ya,yi,aD,aM hv.pu,aQ _ hv.pu,hv.len,t0,t5,t6,dd 0 0 (show x.length<n by omega),yd,kj (l:=o) (o:=x.length) (by omega)]
  simp only [go_sem,Bn _ (n:=n) (l:=o.set x.length c) (by simp [hlen]) true,e1,hr.shut,hr.dn]
end
end
section
open Go (IntKind)
def akC {b:Nat} {out:List Nat} {p j c t o x y Y bo ba:Nat} (ho:o=out.getD j 0) (hj:j<out.length) (ht:t=o+x*y+c) (hv:bo+p*c=ba+p*(x*Y)) (hb:bo=bv b out) (hp:p=b^j):
  bv b (out.set j (t%b))+p*b*(t/b)=ba+p*(x*(Y+0))+p*(x*y):=by
 have h1:=nC (b:=b) (x:=t%b) hj;have h2:=K0 p b t
 grind
section
variable {P:aK} {L:Lib}
def QK {x y c:Nat} (hx:x<18446744073709551616) (hy:y<18446744073709551616) (hc:c<=1):
  (x+18446744073709551616*2-y-c)%18446744073709551616+y+c=x+18446744073709551616*(if y+c<=x then 0 else 1):=by grind
def arq (rH:L.pure 173=some AP) {v w:AV} {x y:List Nat} (hv:bJ v x) (hw:bJ w y) (hx:lo 18446744073709551616 x) (hy:lo 18446744073709551616 y) (lx:x.length<=99999999999) (ly:y.length<=x.length) (hle:bv 18446744073709551616 y<=bv 18446744073709551616 x) {n:Nat} (hn:n=x.length):
  ∀k s,(∃(i c:Nat) (out:List Nat),bH [0,1,5,6,13,14] s=⟨[(0,v),(1,w),(5,.ak 0 0 n),(6,uc c),(13,aa x.length),(14,aa i)],[(0,.cells true true true 1 (out.map uc))],1,0⟩/\i+k=x.length/\out.length=n/\c<=1/\lo 18446744073709551616 out/\
    bv 18446744073709551616 out+bv 18446744073709551616 (y.take i)=bv 18446744073709551616 (x.take i)+18446744073709551616^i*c/\(∀m,i<=m->out.getD m 0=0))->
   ∃ex s',D P L (.loop [0,1,5,6,13,14] Ea) s=some (ex,s')/\∃tm out,s'=⟨tm,[(0,.cells true true true 1 (out.map uc))],1,0⟩/\ex= .exit 0/\af tm 5= .ak 0 0 n/\out.length=n/\lo 18446744073709551616 out/\
    bv 18446744073709551616 out+bv 18446744073709551616 y=bv 18446744073709551616 x:=by
 refine cC (I:=fun k s=>∃(i c:Nat) (out:List Nat),s=⟨[(0,v),(1,w),(5,.ak 0 0 n),(6,uc c),(13,aa x.length),(14,aa i)],[(0,.cells true true true 1 (out.map uc))],1,0⟩/\i+k=x.length/\out.length=n/\c<=1/\lo 18446744073709551616 out/\
    bv 18446744073709551616 out+bv 18446744073709551616 (y.take i)=bv 18446744073709551616 (x.take i)+18446744073709551616^i*c/\(∀m,i<=m->out.getD m 0=0))
  (Q:=fun ex s'=>∃tm out,s'=⟨tm,[(0,.cells true true true 1 (out.map uc))],1,0⟩/\ex= .exit 0/\af tm 5= .ak 0 0 n/\out.length=n/\lo 18446744073709551616 out/\
    bv 18446744073709551616 out+bv 18446744073709551616 y=bv 18446744073709551616 x) ?_
 rintro k s ⟨i,c,out,rfl,hk,hlen,hc,bn,aT,fY⟩;by_cases hi:i<x.length
 ·left
  have hz:=fY i (yD _);have gx:=gm (show 0<18446744073709551616 by decide) hx i;have gy:=gm (show 0<18446744073709551616 by decide) hy i;have OY:=QK gx gy hc;have kK:=akB (x:=x) (y:=y) (show i<out.length by omega) hz OY aT;have e1:=RI (P:=P) (f:=D P L) rH gx gy hc;have ex:=hv.bj hi;generalize x.getD i 0=p at*
  have nl:(if y.getD i 0+c<=p then 0 else 1)<=1:=by split<;>omega
  by_cases hj:i<y.length
  ·have ey:=hw.bj hj;generalize y.getD i 0=q at*
   generalize (if q+c<=p then 0 else 1)=c1 at*
   simp only [go_sem,ya,xR,yi,Ea,hw.len,show (i:Int)<x.length by omega,show (i:Int)<y.length by omega,ex,ey,e1,dd 0 0 (show i<n by omega),yd,kj (l:=out) (o:=i) (by omega)]
   refine ⟨_,k-1,rfl,by omega,i+1,c1,_,?_,by omega,by simp [hlen],nl,me bn (x:=(p+18446744073709551616*2-q-c)%18446744073709551616) (i:=i) (by omega),kK,fun m hm=>?_⟩
   ·rw [wrap64 (by omega) (by omega)];simp only [go_sem,ya,yb,xR,aD,aM hv.pu,aQ _ hv.pu,aM hw.pu,aQ _ hw.pu]<;>rfl
   ·rw [oA (by omega)];exact fY m (by omega)
  ·have iD:y.getD i 0=0:=RE (by omega);rw [iD] at kK e1 nl;rw [show (uc 0)=AV.int .u64 0 from rfl] at e1;generalize (if 0+c<=p then 0 else 1)=c1 at*
   simp only [go_sem,ya,xR,yi,Ea,hw.len,show (i:Int)<x.length by omega,show ¬(i:Int)<y.length by omega,ex,e1,dd 0 0 (show i<n by omega),yd,kj (l:=out) (o:=i) (by omega)]
   refine ⟨_,k-1,rfl,by omega,i+1,c1,_,?_,by omega,by simp [hlen],nl,me bn (x:=(p+18446744073709551616*2-0-c)%18446744073709551616) (i:=i) (by omega),kK,fun m hm=>?_⟩
   ·rw [wrap64 (by omega) (by omega)];simp only [go_sem,ya,yb,xR,aD,aM hv.pu,aQ _ hv.pu,aM hw.pu,aQ _ hw.pu]<;>rfl
   ·rw [oA (by omega)];exact fY m (by omega)
 ·right
  have:i=x.length:=by omega
  subst this;rw [wz,yL ly] at aT;have bi:=mi bn;rw [hlen,hn] at bi;simp only [go_sem,ya,Ea,show ¬(x.length:Int)<x.length by omega];refine ⟨_,_,rfl,by simp,_,out,rfl,rfl,by simp only [go_sem,ya],hlen,bn,?_⟩;rcases (show c=0\/c=1 by omega) with rfl | rfl
  ·omega
  ·omega
def afd (h:Has P L 159 Ni) (my:Has P L 166 Be) (rH:L.pure 173=some AP) {v w:AV} {x y:List Nat} (hv:bJ v x) (hw:bJ w y) (hx:lo 18446744073709551616 x) (hy:lo 18446744073709551616 y) (ny:fX y) (lx:x.length<=99999999999) (hle:bv 18446744073709551616 y<=bv 18446744073709551616 x):
  ∃r out,ae P L 159 [v,w] r/\bJ r out/\lo 18446744073709551616 out/\fX out/\bv 18446744073709551616 out+bv 18446744073709551616 y=bv 18446744073709551616 x:=by
 have ly:y.length<=x.length:=by
  by_cases hh:x.length<y.length
  ·have:=LR (b:=18446744073709551616) (by decide) hx ny hh
   omega
  ·omega
 obtain ⟨n,hn⟩:∃n,n=x.length:=⟨_,rfl⟩;unfold ae;rw [av h]
 simp only [go_sem,ya,yb,Ni,hv.len,<-hn,CX (n:=n) _ (by omega)];generalize hq:D P L (.loop [0,1,5,6,13,14] Ea) _=q;obtain ⟨ex,s,rfl,tm,o,rfl,rfl,t5,hlen,bn,aT⟩:=cd hq (arq (P:=P) (L:=L) rH hv hw hx hy lx ly hle hn x.length)
  ⟨0,0,yA n 0,by rw [hn];simp only [go_sem,ya,yb,aD,aM hv.pu,aQ _ hv.pu,aM hw.pu,aQ _ hw.pu]<;>rfl,by omega,by simp,by omega,Eh (by decide) n,by rw [Ei];simp [bv],fun m _=>Ci n m⟩
 have hf:=mM true o;rw [hlen] at hf;obtain ⟨r,e1,hr⟩:=Bo my hf (by omega);refine ⟨r,_,?_,hr,AI bn,AH _,by rw [AG];exact aT⟩
 simp only [go_sem,yb,aD,t5,Bn _ (n:=n) (l:=o) hlen true,e1,hr.shut,hr.dn]
def amT {x y o c:Nat} (hx:x<18446744073709551616) (hy:y<18446744073709551616) (ho:o<18446744073709551616) (hc:c<18446744073709551616):
  o+x*y+c<18446744073709551616*18446744073709551616/\
  ((x*y%18446744073709551616+o+0)%18446744073709551616+c+0)%18446744073709551616=(o+x*y+c)%18446744073709551616/\
  x*y/18446744073709551616+(x*y%18446744073709551616+o+0)/18446744073709551616+((x*y%18446744073709551616+o+0)%18446744073709551616+c+0)/18446744073709551616=(o+x*y+c)/18446744073709551616:=by
 have h1:=vd (show x<=18446744073709551615 by omega) (show y<=18446744073709551615 by omega)
 grind
def ars (mz:L.pure 143=some q9) (gE:L.pure 171=some nA) {v w:AV} {x y:List Nat} (hv:bJ v x) (hw:bJ w y) (hx:lo 18446744073709551616 x) (hy:lo 18446744073709551616 y) (lx:x.length<=49999999999) (ly:y.length<=49999999999) {n i:Nat} (hn:n=x.length+y.length) (hi:i<x.length) {a:Nat} (ha:a<18446744073709551616) {bo:Nat}:
  ∀k s,(∃(j c:Nat) (out:List Nat),bH [1,5,6,7,8,20,21,22,27,28,29] s=⟨[(1,w),(5,.ak 0 0 n),(6,aa i),(7,uc a),(8,uc c),(20,v),(21,aa x.length),(22,aa i),(27,w),(28,aa y.length),(29,aa j)],[(0,.cells true true true 1 (out.map uc))],1,0⟩/\j+k=y.length/\out.length=n/\c<18446744073709551616/\lo 18446744073709551616 out/\
    bv 18446744073709551616 out+18446744073709551616^(i+j)*c=bo+18446744073709551616^i*(a*bv 18446744073709551616 (y.take j))/\(∀m,i+y.length<=m->out.getD m 0=0))->
   ∃ex s',D P L (.loop [1,5,6,7,8,20,21,22,27,28,29] H0) s=some (ex,s')/\∃tm c out,s'=⟨tm,[(0,.cells true true true 1 (out.map uc))],1,0⟩/\ex= .exit 2/\af tm 1=w/\af tm 5= .ak 0 0 n/\af tm 6=aa i/\af tm 8=uc c/\af tm 20=v/\af tm 21=aa x.length/\af tm 22=aa i/\out.length=n/\c<18446744073709551616/\lo 18446744073709551616 out/\
    bv 18446744073709551616 out+18446744073709551616^(i+y.length)*c=bo+18446744073709551616^i*(a*bv 18446744073709551616 y)/\(∀m,i+y.length<=m->out.getD m 0=0):=by
 refine cC (I:=fun k s=>∃(j c:Nat) (out:List Nat),s=⟨[(1,w),(5,.ak 0 0 n),(6,aa i),(7,uc a),(8,uc c),(20,v),(21,aa x.length),(22,aa i),(27,w),(28,aa y.length),(29,aa j)],[(0,.cells true true true 1 (out.map uc))],1,0⟩/\j+k=y.length/\out.length=n/\c<18446744073709551616/\lo 18446744073709551616 out/\
    bv 18446744073709551616 out+18446744073709551616^(i+j)*c=bo+18446744073709551616^i*(a*bv 18446744073709551616 (y.take j))/\(∀m,i+y.length<=m->out.getD m 0=0))
  (Q:=fun ex s'=>∃tm c out,s'=⟨tm,[(0,.cells true true true 1 (out.map uc))],1,0⟩/\ex= .exit 2/\af tm 1=w/\af tm 5= .ak 0 0 n/\af tm 6=aa i/\af tm 8=uc c/\af tm 20=v/\af tm 21=aa x.length/\af tm 22=aa i/\out.length=n/\c<18446744073709551616/\lo 18446744073709551616 out/\
    bv 18446744073709551616 out+18446744073709551616^(i+y.length)*c=bo+18446744073709551616^i*(a*bv 18446744073709551616 y)/\(∀m,i+y.length<=m->out.getD m 0=0)) ?_
 rintro k s ⟨j,c,out,rfl,hk,hlen,hc,bn,aT,fY⟩;by_cases hj:j<y.length
 ·left
  have BL:(0:Nat)<18446744073709551616:=by decide
  have gy:=gm BL hy j;have nm:=gm BL bn (i+j);have ey:=hw.bj hj;have e3:=zk (l:=out) (o:=i+j) (by omega);obtain ⟨q,hq⟩:∃q,q=y.getD j 0:=⟨_,rfl⟩;obtain ⟨o,ho⟩:∃o,o=out.getD (i+j) 0:=⟨_,rfl⟩;rw [<-hq] at gy ey;rw [<-ho] at nm e3;obtain ⟨m1,m2,m3⟩:=amT ha gy nm hc;have hpy:a*q<18446744073709551616*18446744073709551616:=by omega
  have f1:=Mi (P:=P) (f:=D P L) mz ha gy;have f2:=Cy (P:=P) (f:=D P L) gE (x:=a*q%18446744073709551616) (y:=o) (c:=0) (xC _ BL) nm (by omega);have f3:=Cy (P:=P) (f:=D P L) gE (x:=(a*q%18446744073709551616+o+0)%18446744073709551616) (y:=c) (c:=0) (xC _ BL) hc (by omega);obtain ⟨t,ht⟩:∃t,t=o+a*q+c:=⟨_,rfl⟩;have kK:=akC (b:=18446744073709551616) (out:=out) (p:=18446744073709551616^(i+j)) (j:=i+j) (c:=c) (t:=t) (x:=a) (y:=q) (Y:=0) (ba:=bo+18446744073709551616^i*(a*bv 18446744073709551616 (y.take j))) ho (by omega) ht (by simpa using aT) rfl rfl;rw [m2,<-ht] at f3;rw [<-ht] at m1 m3;obtain ⟨d1,jj⟩:∃d,d=(a*q%18446744073709551616+o+0)/18446744073709551616:=⟨_,rfl⟩;obtain ⟨d2,dR⟩:∃d,d=((a*q%18446744073709551616+o+0)%18446744073709551616+c+0)/18446744073709551616:=⟨_,rfl⟩;rw [<-jj] at f2 m3;rw [<-dR] at f3 m3
  rw [show (uc 0)=AV.int .u64 0 from rfl] at f2 f3;obtain ⟨h1,iM⟩:∃d,d=a*q/18446744073709551616:=⟨_,rfl⟩;rw [<-iM] at f1 m3;have lM:h1+d1<18446744073709551616:=by omega
  have z7:h1+d1+d2<18446744073709551616:=by omega
  simp only [go_sem,ya,yi,H0,show (j:Int)<y.length by omega,ey,f1,wrapN (n:=i+j) (by omega),show (i:Int)+(j:Int)=((i+j:Nat):Int) from rfl,dd 0 0 (show i+j<n by omega),yd,e3,f2,f3,show (h1:Int)+(d1:Int)=((h1+d1:Nat):Int) from rfl,aew lM,show ((h1+d1:Nat):Int)+(d2:Int)=((h1+d1+d2:Nat):Int) from rfl,aew z7,kj (l:=out) (o:=i+j) (by omega)]
  refine ⟨_,k-1,rfl,by omega,j+1,h1+d1+d2,_,?_,by omega,by simp [hlen],z7,me bn (x:=t%18446744073709551616) (i:=i+j) (xC _ BL),?_,fun m hm=>?_⟩
  ·rw [wrap64 (by omega) (by omega)];simp only [go_sem,ya,yb,aD,aM hv.pu,aQ _ hv.pu,aM hw.pu,aQ _ hw.pu]<;>rfl
  ·rw [m3,show i+(j+1)=i+j+1 by omega,xg,iV,<-hq,xD a,xD (18446744073709551616^i)];simp only [xJ,yX] at kK;rw [kK,wP,<-Nat.add_assoc,xk (18446744073709551616^i),<-xk a,xN a (18446744073709551616^j),xk]
  ·rw [oA (by omega)];exact fY m hm
 ·right
  have:j=y.length:=by omega
  subst this;rw [wz] at aT;simp only [go_sem,ya,H0,show ¬(y.length:Int)<y.length by omega];exact ⟨_,_,rfl,by simp,_,c,out,rfl,rfl,by simp only [go_sem,ya],by simp only [go_sem,ya],by simp only [go_sem,ya],by simp only [go_sem,ya],by simp only [go_sem,ya],by simp only [go_sem,ya],by simp only [go_sem,ya],hlen,hc,bn,aT,fY⟩
def art (mz:L.pure 143=some q9) (gE:L.pure 171=some nA) {v w:AV} {x y:List Nat} (hv:bJ v x) (hw:bJ w y) (hx:lo 18446744073709551616 x) (hy:lo 18446744073709551616 y) (lx:x.length<=49999999999) (ly:y.length<=49999999999) {n:Nat} (hn:n=x.length+y.length):
  ∀k s,(∃(i:Nat) (out:List Nat),bH [1,5,20,21,22] s=⟨[(1,w),(5,.ak 0 0 n),(20,v),(21,aa x.length),(22,aa i)],[(0,.cells true true true 1 (out.map uc))],1,0⟩/\i+k=x.length/\out.length=n/\lo 18446744073709551616 out/\
    bv 18446744073709551616 out=bv 18446744073709551616 (x.take i)*bv 18446744073709551616 y/\(∀m,i+y.length<=m->out.getD m 0=0))->
   ∃ex s',D P L (.loop [1,5,20,21,22] H4) s=some (ex,s')/\∃tm out,s'=⟨tm,[(0,.cells true true true 1 (out.map uc))],1,0⟩/\ex= .exit 0/\af tm 5= .ak 0 0 n/\out.length=n/\lo 18446744073709551616 out/\
    bv 18446744073709551616 out=bv 18446744073709551616 x*bv 18446744073709551616 y:=by
 refine cC (I:=fun k s=>∃(i:Nat) (out:List Nat),s=⟨[(1,w),(5,.ak 0 0 n),(20,v),(21,aa x.length),(22,aa i)],[(0,.cells true true true 1 (out.map uc))],1,0⟩/\i+k=x.length/\out.length=n/\lo 18446744073709551616 out/\
    bv 18446744073709551616 out=bv 18446744073709551616 (x.take i)*bv 18446744073709551616 y/\(∀m,i+y.length<=m->out.getD m 0=0))
  (Q:=fun ex s'=>∃tm out,s'=⟨tm,[(0,.cells true true true 1 (out.map uc))],1,0⟩/\ex= .exit 0/\af tm 5= .ak 0 0 n/\out.length=n/\lo 18446744073709551616 out/\
    bv 18446744073709551616 out=bv 18446744073709551616 x*bv 18446744073709551616 y) ?_
 rintro k s ⟨i,out,rfl,hk,hlen,bn,aT,fY⟩;by_cases hi:i<x.length
 ·left
  have gx:=gm (show 0<18446744073709551616 by decide) hx i;have ex:=hv.bj hi;obtain ⟨a,ha⟩:∃a,a=x.getD i 0:=⟨_,rfl⟩;simp only [go_sem,ya,H4,hw.len,show (i:Int)<x.length by omega,ex];generalize hq:D P L (.loop [1,5,6,7,8,20,21,22,27,28,29] H0) _=q;obtain ⟨ex,s,rfl,tm,c,rI,rfl,rfl,t1,t5,t6,t8,t20,t21,t22,CF,hc,auA,Sj,Je⟩:=cd hq (ars (P:=P) (L:=L) mz gE hv hw hx hy lx ly hn hi gx (bo:=bv 18446744073709551616 out) y.length)
   ⟨0,0,out,by simp only [go_sem,ya,yb,aD,aM hv.pu,aQ _ hv.pu,aM hw.pu,aQ _ hw.pu]<;>rfl,by omega,hlen,by decide,bn,by simp [bv],fY⟩
  have hz:rI.getD (i+y.length) 0=0:=Je _ (yD _);have aY:=nC (b:=18446744073709551616) (l:=rI) (i:=i+y.length) (x:=c) (by omega);rw [hz,xJ,yX,Sj] at aY
  simp only [go_sem,ya,yi,aD,t1,t5,t6,t8,t20,t21,t22,hw.len,aM hv.pu,aQ _ hv.pu,aM hw.pu,aQ _ hw.pu,wrapN (n:=i+y.length) (by omega),show (i:Int)+(y.length:Int)=((i+y.length:Nat):Int) from rfl,dd 0 0 (show i+y.length<n by omega),yd,kj (l:=rI) (o:=i+y.length) (by omega)];refine ⟨_,k-1,rfl,by omega,i+1,rI.set (i+y.length) c,?_,by omega,by simp [CF],me auA hc,?_,fun m hm=>?_⟩
  ·rw [wrap64 (by omega) (by omega)];simp only [go_sem,ya,yb,aD,aM hv.pu,aQ _ hv.pu,aM hw.pu,aQ _ hw.pu]<;>rfl
  ·rw [aY,aT,iV,wG,<-ha,xk]
  ·rw [oA (by omega)];exact Je m (by omega)
 ·right
  have:i=x.length:=by omega
  subst this;rw [wz] at aT;simp only [go_sem,ya,H4,show ¬(x.length:Int)<x.length by omega];exact ⟨_,_,rfl,by simp,_,out,rfl,rfl,by simp only [go_sem,ya],hlen,bn,aT⟩
def auB (h:Has P L 144 Nf) (my:Has P L 166 Be) (mz:L.pure 143=some q9) (gE:L.pure 171=some nA) {v w:AV} {x y:List Nat} (hv:bJ v x) (hw:bJ w y) (hx:lo 18446744073709551616 x) (hy:lo 18446744073709551616 y) (lx:x.length<=49999999999) (ly:y.length<=49999999999):
  ∃r out,ae P L 144 [v,w] r/\bJ r out/\lo 18446744073709551616 out/\fX out/\bv 18446744073709551616 out=bv 18446744073709551616 x*bv 18446744073709551616 y:=by
 obtain ⟨n,hn⟩:∃n,n=x.length+y.length:=⟨_,rfl⟩;unfold ae;rw [av h]
 simp only [go_sem,ya,yb,Nf,hv.len,hw.len,wrapN (n:=n) (by omega),show (x.length:Int)+(y.length:Int)=((x.length+y.length:Nat):Int) from rfl,<-hn,CX (n:=n) _ (by omega)];generalize hq:D P L (.loop [1,5,20,21,22] H4) _=q;obtain ⟨ex,s,rfl,tm,o,rfl,rfl,t5,hlen,bn,aT⟩:=cd hq (art (P:=P) (L:=L) mz gE hv hw hx hy lx ly hn x.length)
  ⟨0,yA n 0,by simp only [go_sem,ya,yb,aD,aM hv.pu,aQ _ hv.pu,aM hw.pu,aQ _ hw.pu]<;>rfl,by omega,by simp,Eh (by decide) n,by rw [Ei];simp [bv],fun m _=>Ci n m⟩
 have hf:=mM true o;rw [hlen] at hf;obtain ⟨r,e1,hr⟩:=Bo my hf (by omega);refine ⟨r,_,?_,hr,AI bn,AH _,by rw [AG];exact aT⟩
 simp only [go_sem,yb,aD,t5,Bn _ (n:=n) (l:=o) hlen true,e1,hr.shut,hr.dn]
end
end
section
open Go (IntKind)
def MI (n:Int):IntKind.wrap .u64 n=n%18446744073709551616:=by
 simp [IntKind.wrap,IntKind.signed,IntKind.bits]
def wrapM (n:Nat):IntKind.wrap .u64 (n:Int)=((n%18446744073709551616:Nat):Int):=by rw [MI];omega
def oU (a b:Nat):binOp .mul (uc a) (uc b)=some (uc (a*b%18446744073709551616)):=by
 rw [aba,<-vh,wrapM]
def A5 (a b:Nat):binOp .add (uc a) (uc b)=some (uc ((a+b)%18446744073709551616)):=by
 rw [aa9,<-Int.natCast_add,wrapM]
def CY {a b c:Nat} (h:(a+18446744073709551616-b)%18446744073709551616=c) (hb:b<=18446744073709551616):binOp .sub (uc a) (uc b)=some (uc c):=by
 rw [LS,MI]
 grind
def aru (k k':yU) (a b:Int):binOp .shl (.int k a) (.int k' b)=Cf .shl k a b:=rfl
def arv (k k':yU) (a b:Int):binOp .shr (.int k a) (.int k' b)=Cf .shr k a b:=rfl
def Jf (k:yU) (a:Nat) {s:Nat} (hs:s<=64):binOp .shl (.int .u64 (a:Int)) (.int k (s:Int))=some (uc (a*2^s%18446744073709551616)):=by
 rw [aru];simp only [Cf,yz (show ¬(s:Int)<0 by omega),wC,IntKind.bits,wE hs];rw [show ((2:Int)^s)=((2^s:Nat):Int) by simp,<-vh,wrapM]
def Jg (k:yU) (a:Nat) {s:Nat} (hs:s<=64):binOp .shr (.int .u64 (a:Int)) (.int k (s:Int))=some (uc (a/2^s)):=by
 rw [arv];simp only [Cf,yz (show ¬(s:Int)<0 by omega),wC,IntKind.bits,wE hs]
 grind
def afe (a:Nat):binOp .and (.int .u64 (a:Int)) (.int .u64 4294967295)=some (uc (a%4294967296)):=by
 show some (AV.int .u64 (IntKind.wrap .u64 ((xF 64 (a:Int)&&&xF 64 4294967295).toNat:Int)))=_
 rw [show xF 64 (a:Int)=vY 64 a from vZ 64 a,show xF 64 4294967295=vY 64 4294967295 from rfl];rw [BitVec.toNat_and,vm,vm,show (4294967295%2^64:Nat)=2^32-1 from rfl,Nat.and_two_pow_sub_one_eq_mod,wrapM]
 grind
def Vm {a b:Nat} (ha:a<18446744073709551616) (hb:b<18446744073709551616):binOp .or (.int .u64 (a:Int)) (.int .u64 (b:Int))=some (uc (a|||b)):=by
 show some (AV.int .u64 (IntKind.wrap .u64 ((xF 64 (a:Int)|||xF 64 (b:Int)).toNat:Int)))=_
 congr 2
 rw [show xF 64 (a:Int)=vY 64 a from vZ 64 a,show xF 64 (b:Int)=vY 64 b from vZ 64 b];rw [BitVec.toNat_or,vm,vm,yP (show a<2^64 from ha),yP (show b<2^64 from hb),wrapM]
 have:a|||b<2^64:=Nat.or_lt_two_pow ha hb
 omega
def RJ {p s c:Nat} (h:c<2^s):(p*2^s)|||c=p*2^s+c:=by
 rw [<-Nat.shiftLeft_eq,<-Nat.shiftLeft_add_eq_or_of_lt h]
def Yb:∀(f n:Nat),n<2^f->eK f n<=f/\n<2^eK f n/\(0<n->0<eK f n/\2^(eK f n-1)<=n)
 | 0,n,h=>by simp [eK];simpa using h
 | f+1,n,h=>by
  simp only [eK];by_cases h0:n=0
  ·simp_all
  ·rw [cE h0,yB];obtain ⟨h1,h2,h3⟩:=Yb f (n/2) (by omega);refine ⟨by omega,?_,fun _=>⟨by omega,?_⟩⟩
   ·grind
   ·rw [Nat.add_sub_cancel_left];by_cases hn:0<n/2
    ·obtain ⟨h4,h5⟩:=h3 hn;obtain ⟨m,hm⟩:∃m,eK f (n/2)=m+1:=⟨eK f (n/2)-1,by omega⟩
     grind
    ·have hz:n/2=0:=by omega
     have:eK f 0=0:=by cases f with
      | zero=>rfl
      | succ f=>rfl
     grind
def QM {y:Nat} (h0:0<y) (h:y<18446744073709551616):64-eK 64 y<64/\9223372036854775808<=y*2^(64-eK 64 y)/\y*2^(64-eK 64 y)<18446744073709551616:=by
 obtain ⟨h1,h2,h3⟩:=Yb 64 y h;obtain ⟨h4,h5⟩:=h3 h0;generalize eK 64 y=k at*
 refine ⟨by omega,?_,?_⟩
 ·have:=yZ (2^(64-k)) h5
  rw [<-wP,show k-1+(64-k)=63 by omega] at this;exact this
 ·have:=wH h2 (wK (64-k))
  rw [<-wP,show k+(64-k)=64 by omega] at this;exact this
section
variable {P:aK} {L:Lib} {f:cJ}
def acU (h:L.pure 167=some Ey) {x:Nat} (hx:x<18446744073709551616):bR P L f 167 [uc x]=some (aa (64-eK 64 x:Nat)):=by
 rw [iS h];show (bif yG x 18446744073709551616 then _ else none)=_
 rw [jR hx];rfl
def akD {b v1 v2 u u2 t r:Nat} (cZ:v2<b) (ki:t<b) (ht:t*v1+r=u) (h:b<=r\/t*v2<=b*r+u2):t*(v1*b+v2)<=u*b+u2:=by
 have h2:t*v2<=b*r+u2:=by
  rcases h with h | h
  ·have:=vd (tc ki) (tc cZ)
   have:=yS b h
   omega
  ·exact h
 rw [xD,<-xk,<-ht,wG,xN r b];omega
def ath (n:Nat):mY (.toInt .u64) (.int .i64 (n:Int))=some (uc (n%18446744073709551616)):=by
 show some (AV.int .u64 (IntKind.wrap .u64 (n:Int)))=_
 rw [wrapM]
def XA {y v1 v2 u u2 q r:Nat} (hy:y=v1*4294967296+v2) (cZ:v2<4294967296) (FD:0<v1) (er:v1<4294967296) (hu:u<y) (Ae:u2<4294967296) (hq:q*v1+r=u) (hr:r<4294967296) (hQ:(u*4294967296+u2)/y<=q):
  (4294967296<=q\/4294967296*r+u2<q*v2->0<q/\(q-1)*v1+(r+v1)=u/\(u*4294967296+u2)/y<=q-1/\(4294967296<=r+v1->(u*4294967296+u2)/y=q-1))/\
  (¬4294967296<=q->q*v2<=4294967296*r+u2->(u*4294967296+u2)/y=q):=by
 have iD:0<y:=by omega
 have OZ:∀t s,t*v1+s=u->4294967296<=t->s<4294967296:=fun t s h1 h2=>by
  have:=yZ v1 h2
  grind
 have acV:∀t s,t*v1+s=u->t<4294967296->(4294967296<=s\/t*v2<=4294967296*s+u2)->(u*4294967296+u2)/y<=t->(u*4294967296+u2)/y=t:=fun t s h1 h2 h3 h4=>by
  have:=akD cZ h2 h1 h3
  rw [<-hy] at this
  have:=(Nat.le_div_iff_mul_le iD).2 this
  omega
 constructor
 ·intro h;have Ah:0<q:=by
   grind
  have h1:(q-1)*v1+(r+v1)=u:=by
   obtain ⟨p,rfl⟩:∃p,q=p+1:=⟨q-1,by omega⟩
   grind
  have h2:(u*4294967296+u2)/y<=q-1:=by
   have bi:u*4294967296+u2<q*y:=by
    rcases h with h | h
    ·have h3:u*4294967296+u2<4294967296*y:=by omega
     exact Nat.lt_of_lt_of_le h3 (yZ y h)
    ·rw [hy,xD,<-xk,<-hq,wG,xN r];omega
   have:=(xZ iD).2 bi
   omega
  exact ⟨Ah,h1,h2,fun h3=>acV _ _ h1 (by
   by_cases hb:4294967296<=q-1
   ·have:=OZ _ _ h1 hb;omega
   ·omega) (.inl h3) h2⟩
 ·intro h1 h2;exact acV q r hq (by omega) (.inr h2) hQ
def arw {y s v1 v2 u u2 z:Nat} (hy:y=v1*4294967296+v2) (cZ:v2<4294967296) (FD:0<v1) (er:v1<4294967296) (hu:u<y) (Ae:u2<4294967296):
  ∀k st,(∃q r:Nat,bH [2,8,9,10,11,13,14,15,16] st=⟨[(2,uc y),(8,uc s),(9,uc v1),(10,uc v2),(11,uc u),(13,uc u2),(14,uc z),(15,uc q),(16,uc r)],[],0,0⟩/\q*v1+r=u/\r<4294967296/\(u*4294967296+u2)/y<=q/\q=k)->
   ∃ex st',D P L (.loop [2,8,9,10,11,13,14,15,16] AQ) st=some (ex,st')/\∃tm ct,st'=⟨tm,[],ct,0⟩/\ex= .exit 0/\af tm 2=uc y/\af tm 8=uc s/\af tm 9=uc v1/\af tm 10=uc v2/\af tm 11=uc u/\af tm 13=uc u2/\af tm 14=uc z/\af tm 15=uc ((u*4294967296+u2)/y):=by
 refine cC (I:=fun k st=>∃q r:Nat,st=⟨[(2,uc y),(8,uc s),(9,uc v1),(10,uc v2),(11,uc u),(13,uc u2),(14,uc z),(15,uc q),(16,uc r)],[],0,0⟩/\q*v1+r=u/\r<4294967296/\(u*4294967296+u2)/y<=q/\q=k)
  (Q:=fun ex st'=>∃tm ct,st'=⟨tm,[],ct,0⟩/\ex= .exit 0/\af tm 2=uc y/\af tm 8=uc s/\af tm 9=uc v1/\af tm 10=uc v2/\af tm 11=uc u/\af tm 13=uc u2/\af tm 14=uc z/\af tm 15=uc ((u*4294967296+u2)/y)) ?_
 rintro k st ⟨q,r,rfl,hq,hr,hQ,rfl⟩;obtain ⟨g1,g2⟩:=XA hy cZ FD er hu Ae hq hr hQ;have hqb:q*1<=q*v1:=yS q FD;have auC:=yZ 4294967296 (show v1<=4294967295 by omega);have n7:q<18446744073709551616:=by omega
 have UG:=yS 4294967296 (show r<=4294967295 by omega);have e1:=oU 4294967296 r;rw [show uc 4294967296=AV.int .u64 4294967296 from rfl,yP (show 4294967296*r<18446744073709551616 by omega)] at e1;have e2:=A5 (4294967296*r) u2;rw [yP (show 4294967296*r+u2<18446744073709551616 by omega)] at e2;have e4:=A5 r v1;rw [yP (show r+v1<18446744073709551616 by omega)] at e4;by_cases hc:4294967296<=q\/4294967296*r+u2<q*v2
 ·obtain ⟨h0,h1,h2,h3⟩:=g1 hc;have e3:binOp .sub (uc q) (.int .u64 1)=some (uc (q-1)):=CY (b:=1) (by omega) (by omega);by_cases hb:4294967296<=r+v1
  ·right
   have Ai:=h3 hb;rcases (show 4294967296<=q\/(¬4294967296<=q/\4294967296*r+u2<q*v2) by omega) with t1 | ⟨t1,t2⟩
   ·simp only [go_sem,ya,AQ,show (4294967296:Int)<=(q:Int) by omega,e3,e4,show (4294967296:Int)<=((r+v1:Nat):Int) by omega];exact ⟨_,_,rfl,by simp,_,_,rfl,rfl,by simp only [go_sem,ya],by simp only [go_sem,ya],by simp only [go_sem,ya],by simp only [go_sem,ya],by simp only [go_sem,ya],by simp only [go_sem,ya],by simp only [go_sem,ya],by rw [Ai];simp only [go_sem,ya]⟩
   ·have Vn:=vd (show q<=4294967295 by omega) (show v2<=4294967295 by omega);have e5:=oU q v2;rw [yP (show q*v2<18446744073709551616 by omega)] at e5;simp only [go_sem,ya,AQ,show ¬(4294967296:Int)<=(q:Int) by omega,e5,e1,e2,show ((4294967296*r+u2:Nat):Int)<((q*v2:Nat):Int) by omega,e3,e4,show (4294967296:Int)<=((r+v1:Nat):Int) by omega];exact ⟨_,_,rfl,by simp,_,_,rfl,rfl,by simp only [go_sem,ya],by simp only [go_sem,ya],by simp only [go_sem,ya],by simp only [go_sem,ya],by simp only [go_sem,ya],by simp only [go_sem,ya],by simp only [go_sem,ya],by rw [Ai];simp only [go_sem,ya]⟩
  ·left
   rcases (show 4294967296<=q\/(¬4294967296<=q/\4294967296*r+u2<q*v2) by omega) with t1 | ⟨t1,t2⟩
   ·simp only [go_sem,ya,AQ,show (4294967296:Int)<=(q:Int) by omega,e3,e4,show ¬(4294967296:Int)<=((r+v1:Nat):Int) by omega];exact ⟨_,q-1,rfl,by omega,q-1,r+v1,by simp only [go_sem,ya,aD],h1,by omega,h2,rfl⟩
   ·have Vn:=vd (show q<=4294967295 by omega) (show v2<=4294967295 by omega);have e5:=oU q v2;rw [yP (show q*v2<18446744073709551616 by omega)] at e5;simp only [go_sem,ya,AQ,show ¬(4294967296:Int)<=(q:Int) by omega,e5,e1,e2,show ((4294967296*r+u2:Nat):Int)<((q*v2:Nat):Int) by omega,e3,e4,show ¬(4294967296:Int)<=((r+v1:Nat):Int) by omega];exact ⟨_,q-1,rfl,by omega,q-1,r+v1,by simp only [go_sem,ya,aD],h1,by omega,h2,rfl⟩
 ·right
  have Ai:=g2 (by omega) (by omega);have e5:=oU q v2;rw [yP (show q*v2<18446744073709551616 by omega)] at e5;simp only [go_sem,ya,AQ,show ¬(4294967296:Int)<=(q:Int) by omega,e5,e1,e2,show ¬((4294967296*r+u2:Nat):Int)<((q*v2:Nat):Int) by omega];exact ⟨_,_,rfl,by simp,_,_,rfl,rfl,by simp only [go_sem,ya],by simp only [go_sem,ya],by simp only [go_sem,ya],by simp only [go_sem,ya],by simp only [go_sem,ya],by simp only [go_sem,ya],by simp only [go_sem,ya],by rw [Ai];simp only [go_sem,ya]⟩
end
end
section
open Go (IntKind)
section
variable {P:aK} {L:Lib} {f:cJ}
def arx {y s v1 v2 u u2 z:Nat} (hy:y=v1*4294967296+v2) (cZ:v2<4294967296) (FD:0<v1) (er:v1<4294967296) (hu:u<y) (Ae:u2<4294967296):
  ∀k st,(∃q r:Nat,bH [2,8,9,10,14,15,16,17,18] st=⟨[(2,uc y),(8,uc s),(9,uc v1),(10,uc v2),(14,uc u2),(15,uc z),(16,uc r),(17,uc u),(18,uc q)],[],0,0⟩/\q*v1+r=u/\r<4294967296/\(u*4294967296+u2)/y<=q/\q=k)->
   ∃ex st',D P L (.loop [2,8,9,10,14,15,16,17,18] AR) st=some (ex,st')/\∃tm ct,st'=⟨tm,[],ct,0⟩/\ex= .exit 2/\af tm 2=uc y/\af tm 8=uc s/\af tm 9=uc v1/\af tm 10=uc v2/\af tm 14=uc u2/\af tm 15=uc z/\af tm 17=uc u/\af tm 18=uc ((u*4294967296+u2)/y):=by
 refine cC (I:=fun k st=>∃q r:Nat,st=⟨[(2,uc y),(8,uc s),(9,uc v1),(10,uc v2),(14,uc u2),(15,uc z),(16,uc r),(17,uc u),(18,uc q)],[],0,0⟩/\q*v1+r=u/\r<4294967296/\(u*4294967296+u2)/y<=q/\q=k)
  (Q:=fun ex st'=>∃tm ct,st'=⟨tm,[],ct,0⟩/\ex= .exit 2/\af tm 2=uc y/\af tm 8=uc s/\af tm 9=uc v1/\af tm 10=uc v2/\af tm 14=uc u2/\af tm 15=uc z/\af tm 17=uc u/\af tm 18=uc ((u*4294967296+u2)/y)) ?_
 rintro k st ⟨q,r,rfl,hq,hr,hQ,rfl⟩;obtain ⟨g1,g2⟩:=XA hy cZ FD er hu Ae hq hr hQ;have hqb:q*1<=q*v1:=yS q FD;have auC:=yZ 4294967296 (show v1<=4294967295 by omega);have n7:q<18446744073709551616:=by omega
 have UG:=yS 4294967296 (show r<=4294967295 by omega);have e1:=oU 4294967296 r;rw [show uc 4294967296=AV.int .u64 4294967296 from rfl,yP (show 4294967296*r<18446744073709551616 by omega)] at e1;have e2:=A5 (4294967296*r) u2;rw [yP (show 4294967296*r+u2<18446744073709551616 by omega)] at e2;have e4:=A5 r v1;rw [yP (show r+v1<18446744073709551616 by omega)] at e4;by_cases hc:4294967296<=q\/4294967296*r+u2<q*v2
 ·obtain ⟨h0,h1,h2,h3⟩:=g1 hc;have e3:binOp .sub (uc q) (.int .u64 1)=some (uc (q-1)):=CY (b:=1) (by omega) (by omega);by_cases hb:4294967296<=r+v1
  ·right
   have Ai:=h3 hb;rcases (show 4294967296<=q\/(¬4294967296<=q/\4294967296*r+u2<q*v2) by omega) with t1 | ⟨t1,t2⟩
   ·simp only [go_sem,ya,AR,show (4294967296:Int)<=(q:Int) by omega,e3,e4,show (4294967296:Int)<=((r+v1:Nat):Int) by omega];exact ⟨_,_,rfl,by simp,_,_,rfl,rfl,by simp only [go_sem,ya],by simp only [go_sem,ya],by simp only [go_sem,ya],by simp only [go_sem,ya],by simp only [go_sem,ya],by simp only [go_sem,ya],by simp only [go_sem,ya],by rw [Ai];simp only [go_sem,ya]⟩
   ·have Vn:=vd (show q<=4294967295 by omega) (show v2<=4294967295 by omega);have e5:=oU q v2;rw [yP (show q*v2<18446744073709551616 by omega)] at e5;simp only [go_sem,ya,AR,show ¬(4294967296:Int)<=(q:Int) by omega,e5,e1,e2,show ((4294967296*r+u2:Nat):Int)<((q*v2:Nat):Int) by omega,e3,e4,show (4294967296:Int)<=((r+v1:Nat):Int) by omega];exact ⟨_,_,rfl,by simp,_,_,rfl,rfl,by simp only [go_sem,ya],by simp only [go_sem,ya],by simp only [go_sem,ya],by simp only [go_sem,ya],by simp only [go_sem,ya],by simp only [go_sem,ya],by simp only [go_sem,ya],by rw [Ai];simp only [go_sem,ya]⟩
  ·left
   rcases (show 4294967296<=q\/(¬4294967296<=q/\4294967296*r+u2<q*v2) by omega) with t1 | ⟨t1,t2⟩
   ·simp only [go_sem,ya,AR,show (4294967296:Int)<=(q:Int) by omega,e3,e4,show ¬(4294967296:Int)<=((r+v1:Nat):Int) by omega];exact ⟨_,q-1,rfl,by omega,q-1,r+v1,by simp only [go_sem,ya,aD],h1,by omega,h2,rfl⟩
   ·have Vn:=vd (show q<=4294967295 by omega) (show v2<=4294967295 by omega);have e5:=oU q v2;rw [yP (show q*v2<18446744073709551616 by omega)] at e5;simp only [go_sem,ya,AR,show ¬(4294967296:Int)<=(q:Int) by omega,e5,e1,e2,show ((4294967296*r+u2:Nat):Int)<((q*v2:Nat):Int) by omega,e3,e4,show ¬(4294967296:Int)<=((r+v1:Nat):Int) by omega];exact ⟨_,q-1,rfl,by omega,q-1,r+v1,by simp only [go_sem,ya,aD],h1,by omega,h2,rfl⟩
 ·right
  have Ai:=g2 (by omega) (by omega);have e5:=oU q v2;rw [yP (show q*v2<18446744073709551616 by omega)] at e5;simp only [go_sem,ya,AR,show ¬(4294967296:Int)<=(q:Int) by omega,e5,e1,e2,show ¬((4294967296*r+u2:Nat):Int)<((q*v2:Nat):Int) by omega];exact ⟨_,_,rfl,by simp,_,_,rfl,rfl,by simp only [go_sem,ya],by simp only [go_sem,ya],by simp only [go_sem,ya],by simp only [go_sem,ya],by simp only [go_sem,ya],by simp only [go_sem,ya],by simp only [go_sem,ya],by rw [Ai];simp only [go_sem,ya]⟩
def aex (a:Nat):binOp .shr (.int .u64 (a:Int)) (.int .u64 32)=some (uc (a/4294967296)):=Jg .u64 a (s:=32) (by decide)
def aff (a:Nat) {b:Nat} (ha:a<18446744073709551616) (hb:0<b):binOp .quo (uc a) (uc b)=some (uc (a/b)):=by
 rw [fq _ _ _ (by omega),Int.tdiv_eq_ediv_of_nonneg (by omega),<-Int.natCast_ediv,wrapM,yP];exact wD (uy a b) ha
def auD (a:Nat) {b:Nat} (hb:0<b):binOp .rem (uc a) (uc b)=some (uc (a%b)):=by
 rw [eD _ _ _ (by omega),Int.tmod_eq_emod_of_nonneg (by omega),<-Int.natCast_emod]
def akE {hi lo y s u z Y:Nat} (hs:s<64) (bn:lo<18446744073709551616) (hY:Y=y*2^s) (hu:u=hi*2^s+lo/2^(64-s)) (hz:z=lo*2^s%18446744073709551616):
  (hi*18446744073709551616+lo)*2^s=u*18446744073709551616+z:=by
 have e:18446744073709551616=2^(64-s)*2^s:=by rw [<-wP,show 64-s+s=64 by omega]
 have h1:lo*2^s/18446744073709551616=lo/2^(64-s):=by
  rw [e,tP _ _ (wK s)]
 grind
def Y0 {Y q a b:Nat} (h1:a<Y) (h2:b<4294967296) (h3:q=(a*4294967296+b)/Y):q<4294967296:=by
 rw [h3];exact (xZ (by omega)).2 (by omega)
def amU {u w x z z0 z1 q0 q1 Y:Nat} (jj:q1*Y+w=u*4294967296+z1) (fR:q0*Y+x=w*4294967296+z0) (hz:z=z1*4294967296+z0):u*18446744073709551616+z=(q1*4294967296+q0)*Y+x:=by grind
def ai1 {q1 q0:Nat} (h1:q1<4294967296) (h0:q0<4294967296):q1*4294967296<18446744073709551616/\q1*4294967296+q0<18446744073709551616:=by omega
def afg (h:Has P L 165 IS) (Jh:L.pure 167=some Ey) {hi lo y:Nat} (fY:hi<y) (bn:lo<18446744073709551616) (hy:y<18446744073709551616):
  ae P L 165 [uc hi,uc lo,uc y] (.aq [uc ((hi*18446744073709551616+lo)/y),uc ((hi*18446744073709551616+lo)%y)]):=by
 have iD:0<y:=by omega
 by_cases h0:hi=0
 ·subst h0;have e1:=aff lo bn iD;have e2:=auD lo iD;rw [Nat.zero_mul,yd];unfold ae;rw [av h];simp only [go_sem,ya,IS,show ¬(y:Int)=0 by omega,show ¬(y:Int)<=0 by omega,show ((0:Nat):Int)=0 from rfl,e1,e2];rfl
 ·obtain ⟨s,hs⟩:∃s,s=64-eK 64 y:=⟨_,rfl⟩;have hl:=acU (P:=P) (f:=D P L) Jh hy;obtain ⟨l1,l2,l3⟩:=QM iD hy;rw [<-hs] at hl l1 l2 l3;obtain ⟨Y,hY⟩:∃Y,Y=y*2^s:=⟨_,rfl⟩;obtain ⟨u,hu⟩:∃u,u=hi*2^s+lo/2^(64-s):=⟨_,rfl⟩;obtain ⟨z,hz⟩:∃z,z=lo*2^s%18446744073709551616:=⟨_,rfl⟩;have hdiv:=akE l1 bn hY hu hz;rw [<-hY] at l2 l3;have hp:=wK s;obtain ⟨v1,er⟩:∃v,v=Y/4294967296:=⟨_,rfl⟩;obtain ⟨v2,cZ⟩:∃v,v=Y%4294967296:=⟨_,rfl⟩;have hYv:Y=v1*4294967296+v2:=by omega
  obtain ⟨z1,mD⟩:∃v,v=z/4294967296:=⟨_,rfl⟩;obtain ⟨z0,lR⟩:∃v,v=z%4294967296:=⟨_,rfl⟩;have FE:z<18446744073709551616:=by omega
  have hhY:hi*2^s<Y:=by rw [hY];exact wH fY hp
  have ix:lo/2^(64-s)<2^s:=by
   refine (xZ (wK _)).2 ?_;rw [<-wP,show s+(64-s)=64 by omega];exact bn
  have nU:hi*2^s|||lo/2^(64-s)=u:=by rw [RJ ix,hu]
  have hN:hi*18446744073709551616+lo<y*18446744073709551616:=by
   have:=yZ 18446744073709551616 (show hi+1<=y from fY)
   omega
  have Vo:u<Y:=by
   have h1:=wH hN hp;rw [hdiv,Nat.mul_right_comm,<-hY] at h1;omega
  obtain ⟨q1,eG⟩:∃q,q=(u*4294967296+z1)/Y:=⟨_,rfl⟩;obtain ⟨w,hw⟩:∃q,q=(u*4294967296+z1)%Y:=⟨_,rfl⟩;obtain ⟨q0,Ah⟩:∃q,q=(w*4294967296+z0)/Y:=⟨_,rfl⟩;obtain ⟨x,hx⟩:∃q,q=(w*4294967296+z0)%Y:=⟨_,rfl⟩;have O0:w<Y:=by rw [hw];exact xC _ (by omega)
  have Vp:x<Y:=by rw [hx];exact xC _ (by omega)
  have jj:=wB (u*4294967296+z1) Y;rw [<-eG,<-hw,xN] at jj;have fR:=wB (w*4294967296+z0) Y;rw [<-Ah,<-hx,xN] at fR;have auE:=Y0 Vo (show z1<4294967296 by omega) eG;have auF:=Y0 O0 (show z0<4294967296 by omega) Ah;obtain ⟨td1,td2⟩:=ai1 auE auF;have NI:(hi*18446744073709551616+lo)*2^s=(q1*4294967296+q0)*Y+x:=by
   rw [hdiv];exact amU jj fR (by omega)
  have r1:(hi*18446744073709551616+lo)/y=q1*4294967296+q0:=by
   rw [<-tP _ _ hp,NI,<-hY,xN _ Y,Nat.mul_add_div (by omega),Nat.div_eq_of_lt Vp,yX]
  have r2:x/2^s=(hi*18446744073709551616+lo)%y:=by
   have h1:x=(hi*18446744073709551616+lo)*2^s%(y*2^s):=by
    rw [NI,<-hY,xN _ Y,Nat.mul_add_mod,yP Vp]
   rw [h1,Nat.mul_mod_mul_right,Nat.mul_div_cancel _ hp]
  have o1:=Jf .u64 y (s:=s) (by omega);rw [<-hY,yP l3] at o1;have o2:=aex Y;rw [<-er] at o2;have o3:=afe Y;rw [<-cZ] at o3;have o4:=Jf .u64 hi (s:=s) (by omega);rw [yP (show hi*2^s<18446744073709551616 by omega)] at o4;have o5:binOp .sub (.int .u64 64) (uc s)=some (uc (64-s)):=CY (a:=64) (by omega) (by omega);have o6:=Jg .u64 lo (s:=64-s) (by omega);have o7:=Vm (a:=hi*2^s) (b:=lo/2^(64-s)) (by omega) (wD (uy _ _) bn);rw [nU] at o7;have o8:=Jf .u64 lo (s:=s) (by omega);rw [<-hz] at o8;have o9:=aex z;rw [<-mD] at o9;have o10:=afe z;rw [<-lR] at o10;have E0:0<v1:=by omega
  have aey:∀{a:Nat},a<Y->binOp .quo (uc a) (uc v1)=some (uc (a/v1))/\binOp .mul (uc (a/v1)) (uc v1)=some (uc (a/v1*v1))/\binOp .sub (uc a) (uc (a/v1*v1))=some (uc (a%v1)):=fun {a} ha=>by
   have h1:=wB a v1;rw [xN] at h1;have h2:=oU (a/v1) v1;generalize a/v1*v1=m at*
   rw [yP (show m<18446744073709551616 by omega)] at h2;exact ⟨aff a (by omega) E0,h2,CY (by omega) (by omega)⟩
  obtain ⟨g1,g2,g3⟩:=aey Vo;obtain ⟨g4,g5,g6⟩:=aey O0;have first:∀{a b:Nat},b<4294967296->(a*4294967296+b)/Y<=a/v1:=fun {a b} hb=>by
   have:=PC (b:=4294967296) (V:=Y) (v1:=v1) (v2:=v2) (vr:=0) (U:=a*4294967296+b) (u0:=0) (u1:=a) (u2:=b) (ur:=0) (p:=1) (by omega) (by omega) (by decide) hb E0
   simpa using this
  have back:∀{a b q x:Nat},a*4294967296+b=q*Y+x->x<Y->binOp .mul (uc a) (.int .u64 4294967296)=some (uc (a*4294967296%18446744073709551616))/\binOp .add (uc (a*4294967296%18446744073709551616)) (uc b)=some (uc ((a*4294967296%18446744073709551616+b)%18446744073709551616))/\
    binOp .mul (uc q) (uc Y)=some (uc (q*Y%18446744073709551616))/\binOp .sub (uc ((a*4294967296%18446744073709551616+b)%18446744073709551616)) (uc (q*Y%18446744073709551616))=some (uc x):=fun {a b q x} h1 h2=>by
   refine ⟨oU a 4294967296,A5 _ _,oU q Y,CY ?_ (by omega)⟩;generalize q*Y=m at*
   omega
  obtain ⟨k1,k2,k3,k4⟩:=back jj.symm O0;obtain ⟨k5,k6,k7,k8⟩:=back fR.symm Vp;have m1:=oU q1 4294967296;rw [yP td1,show uc 4294967296=AV.int .u64 4294967296 from rfl] at m1;have m2:=A5 (q1*4294967296) q0;rw [yP td2] at m2;have m3:=Jg .u64 x (s:=s) (by omega);rw [r1,<-r2];unfold ae;rw [av h];simp only [go_sem,ya,IS,show ¬(y:Int)=0 by omega,show ¬(y:Int)<=(hi:Int) by omega,show ¬(hi:Int)=0 by omega,hl,ath,yP (show s<18446744073709551616 by omega),o1,o2,o3,o4,o5,o6,o7,o8,o9,o10,g1,g2,g3];generalize mI:D P L (.loop [2,8,9,10,11,13,14,15,16] AQ) _=qq
  obtain ⟨ex,st,rfl,tm,ct,rfl,rfl,t2,t8,t9,t10,t11,t13,t14,t15⟩:=cd mI (arw (P:=P) (L:=L) (s:=s) (z:=z0) hYv (by omega) E0 (by omega) Vo (show z1<4294967296 by omega) (u/v1)) ⟨u/v1,u%v1,by simp only [go_sem,ya,aD],by rw [xN];exact wB u v1,by have:=xC u E0;omega,first (by omega),rfl⟩
  rw [<-eG] at t15;simp only [go_sem,ya,aD,t2,t8,t9,t10,t11,t13,t14,t15,k1,k2,k3,k4,g4,g5,g6];generalize CZ:D P L (.loop [2,8,9,10,14,15,16,17,18] AR) _=Vq;obtain ⟨ex,st,rfl,nQ,ct2,rfl,rfl,t2,t8,t9,t10,t14,t15,t17,t18⟩:=cd CZ (arx (P:=P) (L:=L) (s:=s) (z:=q1) hYv (by omega) E0 (by omega) O0 (show z0<4294967296 by omega) (w/v1)) ⟨w/v1,w%v1,by simp only [go_sem,ya,aD],by rw [xN];exact wB w v1,by have:=xC w E0;omega,first (by omega),rfl⟩
  rw [<-Ah] at t18;simp only [go_sem,ya,aD,t2,t8,t14,t15,t17,t18,m1,m2,k5,k6,k7,k8,m3];rfl
end
end
section
open Go (IntKind)
mutual
def below (n:Nat):AV->Prop
 | .ptr id _=>id<n
 | .ak id _ _=>id<n
 | .map id=>id<n
 | .it id=>id<n
 | .fn (.f _) first cap=>jP n first/\jP n cap
 | .fn (.y l) first cap=>l<n/\first=[]/\cap=[]
 | .agg cs=>jP n cs
 | .aq cs=>jP n cs
 | _=>True
def jP (n:Nat):List AV->Prop
 | []=>True
 | v::r=>below n v/\jP n r
end
def jq (n:Nat):Env->Prop
 | []=>True
 | (_,v)::r=>below n v/\jq n r
def mP (n:Nat):Obj->Prop
 | .cells _ pu _ _ cs=>pu=true\/jP n cs
 | .mp _ ks vs=>jP n ks/\jP n vs
 | .si _ _=>True
 | .lp tm _ _ _ _ _=>jq n tm
def jr (b n:Nat):Hp->Prop
 | []=>True
 | (id,o)::r=>id<b/\mP n o/\jr b n r
mutual
def Y1 {f:Nat->Option Nat} {n:Nat} (hf:∀x,x<n->f x=some x):∀{v:AV},below n v->cm f v=v
 | .int _ _,_ | .bool _,_ | .dB _ _,_ | .str _,_ | .jT,_ | .aF _,_ | .ab,_ | .aE _ _ _,_ | .hO,_ | .jz,_ | .jf _ _,_ | .undef,_ | .cG _ _ _ _,_=>rfl
 | .ptr id o,h=>by simp only [cm,hf id h]
 | .ak id o k,h=>by simp only [cm,hf id h]
 | .map id,h=>by simp only [cm,hf id h]
 | .it id,h=>by simp only [cm,hf id h]
 | .fn (.y l) first cap,h=>by
  obtain ⟨h1,rfl,rfl⟩:=h;simp only [cm,hf l h1,fG]
 | .fn (.f _) first cap,h=>by
  simp only [cm,Ax hf h.1,Ax hf h.2]
 | .agg cs,h=>by simp only [below] at h;simp only [cm,Ax hf h]
 | .aq cs,h=>by simp only [below] at h;simp only [cm,Ax hf h]
def Ax {f:Nat->Option Nat} {n:Nat} (hf:∀x,x<n->f x=some x):∀{vs:List AV},jP n vs->fG f vs=vs
 | [],_=>rfl
 | v::r,h=>by simp only [fG,Y1 hf h.1,Ax hf h.2]
end
def PS {f:Nat->Option Nat} {n:Nat} (hf:∀x,x<n->f x=some x):∀{tm:Env},jq n tm->kM f tm=tm
 | [],_=>rfl
 | (_,v)::r,h=>by simp only [kM,Y1 hf h.1,PS hf h.2]
def ai2 {f:Nat->Option Nat} {n:Nat} (hf:∀x,x<n->f x=some x):∀{o:Obj},mP n o->lC f o=o
 | .cells _ pu _ _ cs,h=>by
  cases pu with
  | true=>rfl
  | false=>simp only [mP,yC,ybu] at h;simp only [lC,yB,Ax hf h]
 | .mp _ ks vs,h=>by simp only [lC,Ax hf h.1,Ax hf h.2]
 | .si _ _,_=>rfl
 | .lp tm _ _ _ _ _,h=>by simp only [mP] at h;simp only [lC,PS hf h]
mutual
def Yc {n:Nat}:∀{v:AV},below n v->∀x,x∈refs v->x<n
 | .int _ _,_,x,h | .bool _,_,x,h | .dB _ _,_,x,h | .str _,_,x,h | .jT,_,x,h | .aF _,_,x,h | .ab,_,x,h | .aE _ _ _,_,x,h | .hO,_,x,h | .jz,_,x,h | .jf _ _,_,x,h | .undef,_,x,h | .cG _ _ _ _,_,x,h=>by simp [refs] at h
 | .ptr id o,h,x,hx=>by simp only [refs,vc] at hx;subst hx;exact h
 | .ak id o k,h,x,hx=>by simp only [refs,vc] at hx;subst hx;exact h
 | .map id,h,x,hx=>by simp only [refs,vc] at hx;subst hx;exact h
 | .it id,h,x,hx=>by simp only [refs,vc] at hx;subst hx;exact h
 | .fn (.y l) first cap,h,x,hx=>by simp only [refs,vc] at hx;subst hx;exact h.1
 | .fn (.f _) first cap,h,x,hx=>by
  simp only [refs,wQ] at hx;exact hx.elim (Au h.1 x) (Au h.2 x)
 | .agg cs,h,x,hx=>by simp only [below] at h;simp only [refs] at hx;exact Au h x hx
 | .aq cs,h,x,hx=>by simp only [below] at h;simp only [refs] at hx;exact Au h x hx
def Au {n:Nat}:∀{vs:List AV},jP n vs->∀x,x∈eI vs->x<n
 | [],_,x,h=>by simp [eI] at h
 | v::r,h,x,hx=>by
  simp only [eI,wQ] at hx;exact hx.elim (Yc h.1 x) (Au h.2 x)
end
def KJ {n:Nat}:∀{tm:Env},jq n tm->∀x,x∈fb tm->x<n
 | [],_,x,h=>by simp [fb] at h
 | (_,v)::r,h,x,hx=>by
  simp only [fb,wQ] at hx;exact hx.elim (Yc h.1 x) (KJ h.2 x)
def PD {n:Nat}:∀{o:Obj},mP n o->∀x,x∈fc o->x<n
 | .cells _ pu _ _ cs,h,x,hx=>by
  cases pu with
  | true=>simp [fc] at hx
  | false=>simp only [mP,yC,ybu] at h;exact Au h x hx
 | .mp _ ks vs,h,x,hx=>by
  simp only [fc,wQ] at hx;exact hx.elim (Au h.1 x) (Au h.2 x)
 | .si _ _,_,x,hx=>by simp [fc] at hx
 | .lp tm _ _ _ _ _,h,x,hx=>by simp only [mP] at h;exact KJ h x hx
def bF (B:Nat):List (List AV)->Hp
 | []=>[]
 | cs::r=>(B+r.length,.cells true true true 1 cs)::bF B r
def CG (B:Nat):List (List AV)->Hp->Hp
 | [],acc=>acc
 | cs::r,acc=>CG (B+1) r ((B,.cells true true true 1 cs)::acc)
def Yd:∀(l:List (List AV)) (B:Nat) (x:List AV) (acc:Hp),CG B (l++[x]) acc=(B+l.length,.cells true true true 1 x)::CG B l acc
 | [],B,x,acc=>rfl
 | c::l,B,x,acc=>by
  simp only [y8,CG,Yd l,yv]
  grind
def Y2 (B:Nat) (acc:Hp):∀rs:List (List AV),CG B rs.reverse acc=bF B rs++acc
 | []=>rfl
 | c::r=>by
  simp only [yan,Yd,Y2 B acc r,tW,bF,y8]
def Qg {B:Nat} {old:Hp}:∀{rs:List (List AV)} {i:Nat} (h:i<rs.length),ap (bF B rs++old) (B+i)=some (.cells true true true 1 (rs.reverse[i]'(by simpa using h)))
 | c::r,i,h=>by
  simp only [bF,y8,yan];by_cases hi:i=r.length
  ·subst hi;rw [ap,Nat.beq_refl,ym]
   simp
  ·have bi:i<r.length:=by grind
   rw [ap,cE (by omega),yB,Qg bi]
   grind
def qK {B:Nat} {old:Hp}:∀{rs:List (List AV)} {x:Nat},x<B->ap (bF B rs++old) x=ap old x
 | [],x,_=>rfl
 | c::r,x,h=>by
  simp only [bF,y8];rw [ap,cE (by omega),yB,qK h]
def Pt {B:Nat} {old:Hp} {o:Obj}:∀{rs:List (List AV)} {x:Nat},x<B->aY (bF B rs++old) x o=bF B rs++aY old x o
 | [],x,_=>rfl
 | c::r,x,h=>by
  simp only [bF,y8];rw [aY,cE (by omega),yB,Pt h]
def W6 {B:Nat} {old:Hp}:∀{rs:List (List AV)} {x:Nat},x<B->dz (bF B rs++old) x=bF B rs++dz old x
 | [],x,_=>rfl
 | c::r,x,h=>by
  simp only [bF,y8];rw [dz,cE (by omega),yB,W6 h]
def gX {a b:Nat} (h:a<b):yG a b=true:=by simp_all
def Em {a b:Nat} (h:b<=a):yG a b=false:=by
 cases hq:yG a b with
 | false=>rfl
 | true=>have:=Nat.le_of_ble_eq_true hq;omega
def Px {B:Nat} {old:Hp}:∀rs:List (List AV),du B (bF B rs++old)=du B old
 | []=>rfl
 | c::r=>by
  simp only [bF,y8];rw [du,Em (by omega),yB,Px r]
def Ye {B:Nat} {old:Hp} {f:Nat->Option Nat}:∀rs:List (List AV),mg B f (bF B rs++old)=mg B f old
 | []=>rfl
 | c::r=>by
  simp only [bF,y8];rw [mg,Em (by omega),yB,Ye r]
def XB {B n:Nat} {f:Nat->Option Nat} (hf:∀x,x<n->f x=some x):∀{old:Hp},jr B n old->mg B f old=old
 | [],_=>rfl
 | (id,o)::r,h=>by
  rw [mg,gX h.1,ym,ai2 hf h.2.1,XB hf h.2.2]
def ai3 {B s x:Nat} (h:B+s<=x):lD x (xH B s)=false:=by
 induction s generalizing B with
 | zero=>rfl
 | succ s ih=>rw [vJ,lD,cE (by omega),yB,ih (by omega)]
def PT {hp:Hp} {B R:Nat} (E1:∀i,i<R->∃rw ex sz cs,ap hp (B+i)=some (.cells rw true ex sz cs)):
  ∀(W:List Nat) (bB s:Nat),W.length<bB->s<=R->W.filter (fun x=> !yG x B)=xH (B+s) (R-s)->reach hp B bB W (xH B s)=xH B R
 | [],0,s,hf,_,_=>by simp at hf
 | [],bB+1,s,hf,hs,h=>by
  have:R-s=0:=by
   grind
  rw [reach,show R=s by omega]
 | id::W,0,s,hf,_,_=>by simp at hf
 | id::W,bB+1,s,hf,hs,h=>by
  have nS:W.length<bB:=by simp_all
  rw [reach];by_cases hid:id<B
  ·rw [gX hid,Bool.true_or,ym];rw [yaz,gX hid] at h;exact PT E1 W bB s nS hs (by simpa using h)
  ·rw [yaz,Em (by omega)] at h;have hRs:R-s=(R-s-1)+1:=by
    have:=congrArg List.length h
    grind
   rw [hRs,vJ] at h;injection h with h1 h2
   subst h1;rw [Em (by omega),Bool.false_or,ai3 (yD _),yB];obtain ⟨rw,ex,sz,cs,ho⟩:=E1 s (by omega);simp only [ho,fc,ym,xS];have e:xH B s++[B+s]=xH B (s+1):=by rw [List.range'_concat];simp
   rw [e];exact PT E1 W bB (s+1) nS (by omega) (by rw [h2,show R-s-1=R-(s+1) by omega,show B+s+1=B+(s+1) by omega])
def ai4 {B s i k:Nat} (h:i<s):mo (B+i) (xH B s) k=some (k+i):=by
 induction s generalizing B i k with
 | zero=>omega
 | succ s ih=>
  rw [vJ,mo];by_cases hi:i=0
  ·simp_all
  ·rw [cE (by omega),yB]
   have:=ih (B:=B+1) (i:=i-1) (k:=k+1) (by omega)
   grind
def aif {B R x:Nat} (h:x<B+R):kF B (xH B R) x=some x:=by
 unfold kF;by_cases hx:x<B
 ·rw [gX hx,ym]
 ·rw [Em (by omega),yB]
  have:=ai4 (B:=B) (s:=R) (i:=x-B) (k:=B) (by omega)
  grind
def Yf {hp:Hp} {f:Nat->Option Nat}:∀(ro:List (List AV)) (B:Nat) (acc:Hp),(∀i (h:i<ro.length),ap hp (B+i)=some (.cells true true true 1 ro[i]))->kG hp f (xH B ro.length) B acc=CG B ro acc
 | [],B,acc,_=>rfl
 | c::r,B,acc,h=>by
  have h0:=h 0 (by simp);simp only [yX,List.getElem_cons_zero] at h0;rw [yv,vJ,kG];simp only [h0,lC,ym,CG]
  exact Yf r (B+1) _ (fun i hi=>by
   have:=h (i+1) (by simpa using hi)
   rw [show B+1+i=B+(i+1) by omega,this]
   simp)
def Xe {live:List Nat} {tm:Env} {B ct:Nat} {old:Hp} {rs:List (List AV)} (ht:jq B (cX tm live)) (ho:jr B (B+rs.length) old) (hl:(fb (cX tm live)).length+(du B old).length<100000)
  (hr:(du B old).filter (fun x=> !yG x B)=xH B rs.length):bH live ⟨tm,bF B rs++old,ct,B⟩=⟨cX tm live,bF B rs++old,B+rs.length,B⟩:=by
 have E1:∀i (h:i<rs.length),ap (bF B rs++old) (B+i)=some (.cells true true true 1 (rs.reverse[i]'(by simpa using h))):=fun i h=>Qg h
 have adk:reach (bF B rs++old) B 100000 (fb (cX tm live)++du B (bF B rs++old)) []=xH B rs.length:=by
  have:=PT (hp:=bF B rs++old) (B:=B) (R:=rs.length) (fun i hi=>⟨_,_,_,_,E1 i hi⟩) (fb (cX tm live)++du B (bF B rs++old)) 100000 0 (by rw [Px,List.length_append];exact hl) (Nat.zero_le _) (by
   rw [List.filter_append,Px,hr,tr.2 (fun x hx=>by
    have:=KJ ht x hx
    simp [gX this])]
   simp)
  grind
 have hid:∀x,x<B+rs.length->kF B (xH B rs.length) x=some x:=fun x hx=>aif hx
 have hn:=Yf (hp:=bF B rs++old) (f:=kF B (xH B rs.length)) rs.reverse B old (fun i hi=>E1 i (by simpa using hi));rw [tW] at hn;simp only [bH,adk,Ye,XB hid ho,hn,Y2,List.length_range']
 rw [PS (n:=B) (fun x hx=>hid x (by omega)) ht]
def Yg {B b n:Nat} (hb:b<=B):∀{H:Hp},jr b n H->∀x,x∈du B H->x<n
 | [],_,x,hx=>by simp [du] at hx
 | (id,o)::r,h,x,hx=>by
  rw [du,gX (by have:=h.1;omega),ym,wQ] at hx;exact hx.elim (PD h.2.1 x) (Yg hb h.2.2 x)
def KK {live:List Nat} {tm:Env} {B ct:Nat} {old:Hp} (ht:jq B (cX tm live)) (ho:jr B B old) (hl:(fb (cX tm live)).length+(du B old).length<100000):
  bH live ⟨tm,old,ct,B⟩=⟨cX tm live,old,B,B⟩:=by
 have:=Xe (rs:=[]) (ct:=ct) ht (by simpa using ho) hl (by
  rw [tr.2 (fun x hx=>by have:=Yg (yD B) ho x hx;simp [gX this])]
  rfl)
 simpa [bF] using this
def PU {b n:Nat}:∀{a c:Hp},jr b n a->jr b n c->jr b n (a++c)
 | [],_,_,h=>h
 | (_,_)::_,_,h,k=>⟨h.1,h.2.1,PU h.2.2 k⟩
def PE {B:Nat}:∀{a c:Hp},du B (a++c)=du B a++du B c
 | [],_=>rfl
 | (id,o)::a,c=>by
  simp only [y8,du,PE (a:=a)]
  cases yG id B with
  | true=>simp only [ym,List.append_assoc]
  | false=>simp only [yB]
def XC {B b n:Nat}:∀{rs:List (List AV)},B+rs.length<=b->jr b n (bF B rs)
 | [],_=>trivial
 | c::r,h=>by
  simp only [yv] at h;exact ⟨by omega,.inl rfl,XC (by omega)⟩
def W7 {B b:Nat}:∀{rs:List (List AV)},du b (bF B rs)=[]
 | []=>rfl
 | c::r=>by
  simp only [bF,du,fc,ym,xS,W7]
  grind
end
end VE
