import Derived.Test.YtmedhadbdofioaaGreatDoorTao
import Derived.Test.YtmedhadbdofioaaGreatDoorTaq
set_option linter.all false
set_option maxRecDepth 100000
open BitVec renaming ofInt→xG,ofInt_natCast→vX,ofNat→vW,toNat_ofNat→wW
open Go renaming IntKind→yV
open Int renaming natCast_mul→wE,toNat_natCast→xI
open List renaming drop→xm,drop_eq_getElem_cons→yL,drop_eq_nil_of_le→y8,replicate→yz,take_length→wo,take_of_length_le→yM
open Nat renaming add_mul→wj,add_zero→yX,ble→yG,ble_eq_true_of_le→yv,blt→yK,div_add_mod→wq,div_le_self→vA,div_lt_iff_lt_mul→wz,le_of_lt→uU,le_refl→yC,lt_of_le_of_lt→wJ,min_eq_left→wu,mod_eq_of_lt→yP,mod_lt→xy,mul_add→xt,mul_assoc→xk,mul_comm→xE,mul_div_mul_right→tv,mul_le_mul→wU,mul_le_mul_left→yS,mul_le_mul_right→yW,mul_lt_mul_of_pos_right→wD,mul_one→yh,mul_zero→xF,pow_add→wC,pow_succ→xg,reduceAdd→yb,reduceEqDiff→ya,reduceMul→xQ,two_pow_pos→wG,zero_add→yd
namespace VE
section
open Go (IntKind)
abbrev uc (n:Nat):AV:= .int .u64 (n:Int)
def bJ (v:AV) (l:List Nat):Prop:=cZ v (l.map uc)
section
variable {v:AV} {l:List Nat}
def bJ.len (h:bJ v l) {hp:Hp}:iI hp 1 v=some (.int .i64 (l.length:Nat)):=by
 have:=cZ.len (hp:=hp) h
 grind
def bJ.pu (h:bJ v l):aR v=true:=cZ.pu h
def bJ.ah (h:bJ v l) (n:Nat) {hp:Hp}:freeze (n+1) hp v=some (v,hp):=cZ.ah h n
def bJ.shut (h:bJ v l):VE.shut v=v:=cZ.shut h
def bJ.bT (h:bJ v l):VE.bT v=v:=cZ.bT h
def bJ.dT (h:bJ v l) {hp:Hp}:result hp v=some v:=cZ.dT h
def bJ.one (h:bJ v l):bm v=true:=cZ.one h
def bJ.cells (h:bJ v l):cellsOf v=[v]:=cZ.cells h
def bJ.bk (h:bJ v l) {i:Nat} (hi:i<l.length):jx 1 i v=some (.aI (uc (l.getD i 0)::(l.map uc).drop (i+1))):=by
 have:=cZ.bk h (i:=i) (by simpa using hi)
 grind
def mT (e:Bool) (l:List Nat):bJ (.aE e l.length (l.map uc)) l:=by
 have:=Ik e (l.map uc)
 rwa [List.length_map] at this
def sQ:bJ .ab []:=pZ
end
def kI {hp:Hp} {ct id o:Nat} {v:Nat} {ex:Bool} {l:List Nat} (h:o<l.length):eM hp ct id o 1 [.int .u64 (v:Int)] (some (.cells true true ex 1 (l.map uc)))=some (.ap [],aW hp id (.cells true true ex 1 ((l.set o v).map uc)),ct):=by
 rw [jb (by rfl) (by simp;omega) (by rfl)]
 have:over o [uc v] (l.map uc)=(l.set o v).map uc:=by
  simp only [over,List.length_cons,List.length_nil,yd];rw [List.map_set,List.set_eq_take_append_cons_drop,yI (by simpa using h)]
  simp
 rw [this];rfl
def zB {l:List Nat} {o:Nat} (h:o<l.length):xm o (l.map uc)=uc (l.getD o 0)::xm (o+1) (l.map uc):=by
 rw [yL (by simpa using h)]
 grind
def ap8 (n:Nat):(yz n [AV.int .u64 0]).flatten=(yz n 0).map uc:=by simp_all
def Df (ct:Nat) {n:Nat} (h:n<=100000000000):zQ ct 1 8 [.int .u64 0] (some n) (some n)=some (.an ct 0 n,.cells true true true 1 ((yz n 0).map uc)):=by
 rw [EO (sz:=1) (by omega) (by omega) (by rfl) (by rfl),ap8];rfl
def BA (hp:Hp) {n:Nat} {l:List Nat} (h:l.length=n) (ex:Bool):lU 0 n (some (ex,1,l.map uc,hp))=some (.aE ex n (l.map uc),hp):=nC ex (by simp [h]) (by decide)
def ae7 {n:Nat} (h:n<18446744073709551616):IntKind.wrap .u64 (n:Int)=n:=aum (by omega) (by omega)
section
variable {P:aG} {L:Lib} {f:cK}
def jM {a b:Nat} (h:a<b):yK a b=true:=by simp_all
def CN (h:L.pure 171=some nE) {x y c:Nat} (hx:x<18446744073709551616) (hy:y<18446744073709551616) (hc:c<=1):
  bO P L f 171 [uc x,uc y,uc c]=some (.ap [uc ((x+y+c)%18446744073709551616),uc ((x+y+c)/18446744073709551616)]):=by
 rw [js h];show (bif yG c 1&&(yK x 18446744073709551616&&yK y 18446744073709551616) then _ else none)=_
 rw [yv hc,jM hx,jM hy];rfl
def SO (h:L.pure 173=some A4) {x y c:Nat} (hx:x<18446744073709551616) (hy:y<18446744073709551616) (hc:c<=1):
  bO P L f 173 [uc x,uc y,uc c]=some (.ap [uc ((x+18446744073709551616*2-y-c)%18446744073709551616),uc (if y+c<=x then 0 else 1)]):=by
 rw [js h];show (bif yG c 1&&(yK x 18446744073709551616&&yK y 18446744073709551616) then _ else none)=_
 rw [yv hc,jM hx,jM hy];by_cases hh:y+c<=x
 ·rw [yv hh,yI hh];rfl
 ·have:yG (y+c) x=false:=by
   cases hq:yG (y+c) x with
   | false=>rfl
   | true=>exact absurd (Nat.le_of_ble_eq_true hq) hh
  grind
def M9 (h:L.pure 143=some rq) {x y:Nat} (hx:x<18446744073709551616) (hy:y<18446744073709551616):
  bO P L f 143 [uc x,uc y]=some (.ap [uc (x*y/18446744073709551616),uc (x*y%18446744073709551616)]):=by
 rw [js h];show (bif yK x 18446744073709551616&&yK y 18446744073709551616 then _ else none)=_
 rw [jM hx,jM hy];rfl
def anM {hp:Hp} {tm:Env} {x:X} (hx:cP tm 0 (some x)=some 0):fL hp (.sl 1) .ab tm none (some x)=some .ab:=by
 simp only [fL,hx,fo]
def BB (h:Has P L 166 Bs) {v:AV} {l:List Nat} (hv:bJ v l) (hl:l.length<=100000000000):∃r,ae P L 166 [v] r/\bJ r (ew l):=by
 rcases hv with ⟨rfl,h0⟩ | ⟨e,rfl⟩
 ·have:l=[]:=by simpa using h0
  subst this;refine ⟨.ab,?_,pZ⟩;unfold ae;rw [av h];simp only [go_sem,ya,Bs,EN,CE,ay,show ¬(0:Int)<0 by decide,anM,dQ]
 ·have key:=cg (P:=P) (L:=L) (live:=[0,3]) (a:=CE)
   (I:=fun k st=>∃(i:Nat),st=⟨[(0,.aE e l.length (l.map uc)),(3,aa i)],[],0,0⟩/\i<=l.length/\i=k/\ew (l.take i)=ew l)
   (Q:=fun ex st=>∃tm ct,st=⟨tm,[],ct,0⟩/\ex= .exit 0/\∃i:Nat,af tm 0= .aE e l.length (l.map uc)/\af tm 3=aa i/\i<=l.length/\l.take i=ew l) ?_
  ·have hlen:(l.map uc).length=l.length:=by simp
   rw [hlen];have je:∃i e',ae P L 166 [.aE e l.length (l.map uc)] (.aE e' i ((l.take i).map uc))/\i<=l.length/\l.take i=ew l:=by
    unfold ae;rw [av h];simp only [go_sem,ya,Bs];generalize hq:D P L (.loop [0,3] CE) _=q;obtain ⟨ex,st,rfl,tm,ct,rfl,rfl,i,h2,h3,h4,h5⟩:=bP hq (key l.length) ⟨l.length,by simp only [go_sem,ya,ay],yC _,rfl,by rw [wo]⟩;have lj:∀tm x,cP tm l.length (some x)=some i->fL [] (.sl 1) (.aE e l.length (l.map uc)) tm none (some x)=some (.aE (e&&Nat.beq i l.length) i ((l.map uc).take i)):=fun tm x hx=>abT hx h4
    simp only [go_sem,ya,ay,h2,h3,lj,dQ];exact ⟨i,_,by rw [List.map_take],h4,h5⟩
   obtain ⟨i,e',g1,g2,g3⟩:=je;refine ⟨_,g1,?_⟩;rw [<-g3]
   have:=mT e' (l.take i)
   rwa [List.length_take,wu g2] at this
  ·rintro k st ⟨i,rfl,hi,rfl,ht⟩
   cases i with
   | zero=>
    right
    simp only [go_sem,ya,CE,show ¬(0:Int)<((0:Nat):Int) by omega];exact ⟨_,_,rfl,by simp,_,_,rfl,rfl,0,by simp only [go_sem,ya],by simp only [go_sem,ya],Nat.zero_le _,by simpa [ew] using ht⟩
   | succ i=>
    have KY:i<l.length:=by omega
    have eF:l.take (i+1)=l.take i++[l[i]]:=List.take_succ_eq_append_getElem KY;have oh:=(mT e l).bk KY;rw [<-gd KY] at oh;by_cases h0:l[i]=0
    ·left
     simp only [go_sem,ya,CE,show (0:Int)<((i+1:Nat):Int) by omega,show ((i+1:Nat):Int)-1=(i:Int) by omega,wrapN (n:=i) (by omega),oh,show ((l[i]:Nat):Int)=0 by omega];refine ⟨_,i,rfl,by omega,i,by simp only [go_sem,ya,ay],by omega,rfl,?_⟩;rw [<-ht,eF,h0,LX]
    ·right
     simp only [go_sem,ya,CE,show (0:Int)<((i+1:Nat):Int) by omega,show ((i+1:Nat):Int)-1=(i:Int) by omega,wrapN (n:=i) (by omega),oh,show ¬((l[i]:Nat):Int)=0 by omega];refine ⟨_,_,rfl,by simp,_,_,rfl,rfl,i+1,by simp only [go_sem,ya],by simp only [go_sem,ya],by omega,?_⟩;rw [<-ht,eF,Eb h0]
end
end
section
open Go (IntKind)
def LZ (p b s:Nat):p*(s%b)+p*b*(s/b)=p*s:=by
 rw [xk,<-xt,Nat.mod_add_div]
def als {b:Nat} {x y out:List Nat} {i c:Nat} (hi:i<out.length) (hz:out.getD i 0=0) (hv:bv b out+b^i*c=bv b (x.take i)+bv b (y.take i)):
  bv b (out.set i ((x.getD i 0+y.getD i 0+c)%b))+b^(i+1)*((x.getD i 0+y.getD i 0+c)/b)=bv b (x.take (i+1))+bv b (y.take (i+1)):=by
 have h1:=nG (b:=b) (x:=(x.getD i 0+y.getD i 0+c)%b) hi;have h2:=LZ (b^i) b (x.getD i 0+y.getD i 0+c);rw [hz,xF,yX] at h1;rw [jv,jv,xg,h1]
 grind
def alt {b:Nat} {x y out:List Nat} {i c z c':Nat} (hi:i<out.length) (hz:out.getD i 0=0) (hs:z+y.getD i 0+c=x.getD i 0+b*c') (hv:bv b out+bv b (y.take i)=bv b (x.take i)+b^i*c):
  bv b (out.set i z)+bv b (y.take (i+1))=bv b (x.take (i+1))+b^(i+1)*c':=by
 have h1:=nG (b:=b) (x:=z) hi;rw [hz,xF,yX] at h1;rw [jv,jv,xg,h1]
 grind
section
variable {P:aG} {L:Lib}
def afL (h:Has P L 158 Fj) {v w:AV} {x y:List Nat} (hv:bJ v x) (hw:bJ w y) (hx:lo 18446744073709551616 x) (hy:lo 18446744073709551616 y) (nx:gL x) (ny:gL y) (lx:x.length<=100000000000) (ly:y.length<=100000000000):
  ae P L 158 [v,w] (aa (eb (bv 18446744073709551616 x) (bv 18446744073709551616 y))):=by
 unfold ae;rw [av h];by_cases hlen:x.length=y.length
 ·have key:=cg (P:=P) (L:=L) (live:=[0,1,5]) (a:=CD)
   (I:=fun k st=>∃j:Nat,st=⟨[(0,v),(1,w),(5,aa ((j:Int)-1))],[],0,0⟩/\j<=x.length/\j=k/\x.drop j=y.drop j)
   (Q:=fun ex st=>∃tm ct,st=⟨tm,[],ct,0⟩/\((ex= .ret/\af tm 4=aa (eb (bv 18446744073709551616 x) (bv 18446744073709551616 y)))\/(ex= .exit 0/\x=y))) ?_
  ·simp only [go_sem,ya,Fj,hv.len,hw.len,show (x.length:Int)=y.length by omega];generalize hq:D P L (.loop [0,1,5] CD) _=q;obtain ⟨ex,st,rfl,tm,ct,rfl,h2⟩:=bP hq (key x.length) ⟨x.length,by
    rw [wrap64 (by omega) (by omega),hlen]
    simp only [go_sem,ya,ay,aJ hv.pu,aO _ hv.pu,aJ hw.pu,aO _ hw.pu]<;>rfl,yC _,rfl,by rw [y8 (yC _),y8 (by omega)]⟩
   rcases h2 with ⟨rfl,h2⟩ | ⟨rfl,h2⟩
   ·simp only [go_sem,h2]
   ·simp only [go_sem,ay];subst h2;simp [eb]
  ·rintro k st ⟨j,rfl,hj,rfl,he⟩
   cases j with
   | zero=>
    right
    simp only [go_sem,ya,CD,show ¬(0:Int)<=((0:Nat):Int)-1 by omega];exact ⟨_,_,rfl,by simp,_,_,rfl,.inr ⟨rfl,by simpa using he⟩⟩
   | succ i=>
    have h1:i<x.length:=by omega
    have h2:i<y.length:=by omega
    have FM:=abL hx h1 h2 he;have bi:=abL hy h2 h1 he.symm;by_cases c0:x.getD i 0=y.getD i 0
    ·left
     simp only [go_sem,ya,CD,show ((i+1:Nat):Int)-1=(i:Int) by omega,show (0:Int)<=(i:Int) by omega,hv.bk h1,hw.bk h2,c0];refine ⟨_,i,rfl,by omega,i,?_,by omega,rfl,?_⟩
     ·rw [wrap64 (by omega) (by omega)];simp only [go_sem,ya,ay,aJ hv.pu,aO _ hv.pu,aJ hw.pu,aO _ hw.pu]<;>rfl
     ·rw [yL h1,yL h2,he,gd h1,gd h2,c0]
    ·by_cases c1:x.getD i 0<y.getD i 0
     ·right
      simp only [go_sem,ya,CD,show ((i+1:Nat):Int)-1=(i:Int) by omega,show (0:Int)<=(i:Int) by omega,hv.bk h1,hw.bk h2,show ¬((x.getD i 0:Nat):Int)=(y.getD i 0:Nat) by omega,show ((x.getD i 0:Nat):Int)<(y.getD i 0:Nat) by omega];refine ⟨_,_,rfl,by simp,_,_,rfl,.inl ⟨rfl,?_⟩⟩;simp only [go_sem];unfold eb;rw [yI (FM c1)]
     ·right
      simp only [go_sem,ya,CD,show ((i+1:Nat):Int)-1=(i:Int) by omega,show (0:Int)<=(i:Int) by omega,hv.bk h1,hw.bk h2,show ¬((x.getD i 0:Nat):Int)=(y.getD i 0:Nat) by omega,show ¬((x.getD i 0:Nat):Int)<(y.getD i 0:Nat) by omega];refine ⟨_,_,rfl,by simp,_,_,rfl,.inl ⟨rfl,?_⟩⟩;simp only [go_sem]
      have:=bi (by omega)
      unfold eb;rw [yB (by omega),yI (by omega)]
 ·by_cases c1:x.length<y.length
  ·have:=MN (b:=18446744073709551616) (by decide) hx ny c1
   simp only [go_sem,ya,Fj,hv.len,hw.len,show ¬(x.length:Int)=y.length by omega,show (x.length:Int)<y.length by omega];unfold eb;rw [yI this]
  ·have:=MN (b:=18446744073709551616) (by decide) hy nx (show y.length<x.length by omega)
   simp only [go_sem,ya,Fj,hv.len,hw.len,show ¬(x.length:Int)=y.length by omega,show ¬(x.length:Int)<y.length by omega];unfold eb;rw [yB (by omega),yI this]
def adA (gT:L.pure 171=some nE) {v w:AV} {x y:List Nat} (hv:bJ v x) (hw:bJ w y) (hx:lo 18446744073709551616 x) (hy:lo 18446744073709551616 y) (lx:x.length<=99999999999) (ly:y.length<=x.length) {n:Nat} (hn:n=x.length+1):
  ∀k s,(∃(i c:Nat) (out:List Nat),bD [0,1,5,6,21,22] s=⟨[(0,v),(1,w),(5,.an 0 0 n),(6,uc c),(21,aa x.length),(22,aa i)],[(0,.cells true true true 1 (out.map uc))],1,0⟩/\i+k=x.length/\out.length=n/\c<=1/\lo 18446744073709551616 out/\
    bv 18446744073709551616 out+18446744073709551616^i*c=bv 18446744073709551616 (x.take i)+bv 18446744073709551616 (y.take i)/\(∀m,i<=m->out.getD m 0=0))->
   ∃ex s',D P L (.loop [0,1,5,6,21,22] CC) s=some (ex,s')/\∃tm c out,s'=⟨tm,[(0,.cells true true true 1 (out.map uc))],1,0⟩/\ex= .exit 0/\af tm 0=v/\af tm 5= .an 0 0 n/\af tm 6=uc c/\out.length=n/\c<=1/\lo 18446744073709551616 out/\
    bv 18446744073709551616 out+18446744073709551616^x.length*c=bv 18446744073709551616 x+bv 18446744073709551616 y/\out.getD x.length 0=0:=by
 refine cg (I:=fun k s=>∃(i c:Nat) (out:List Nat),s=⟨[(0,v),(1,w),(5,.an 0 0 n),(6,uc c),(21,aa x.length),(22,aa i)],[(0,.cells true true true 1 (out.map uc))],1,0⟩/\i+k=x.length/\out.length=n/\c<=1/\lo 18446744073709551616 out/\
    bv 18446744073709551616 out+18446744073709551616^i*c=bv 18446744073709551616 (x.take i)+bv 18446744073709551616 (y.take i)/\(∀m,i<=m->out.getD m 0=0))
  (Q:=fun ex s'=>∃tm c out,s'=⟨tm,[(0,.cells true true true 1 (out.map uc))],1,0⟩/\ex= .exit 0/\af tm 0=v/\af tm 5= .an 0 0 n/\af tm 6=uc c/\out.length=n/\c<=1/\lo 18446744073709551616 out/\
    bv 18446744073709551616 out+18446744073709551616^x.length*c=bv 18446744073709551616 x+bv 18446744073709551616 y/\out.getD x.length 0=0) ?_
 rintro k s ⟨i,c,out,rfl,hk,hlen,hc,bq,aQ,gM⟩;by_cases hi:i<x.length
 ·left
  have hz:=gM i (yC _);have kT:=als (x:=x) (y:=y) (show i<out.length by omega) hz aQ;have gx:=gP (show 0<18446744073709551616 by decide) hx i;have gy:=gP (show 0<18446744073709551616 by decide) hy i;have e1:=CN (P:=P) (f:=D P L) gT gx gy hc;have ex:=hv.bk hi;generalize x.getD i 0=p at*
  by_cases hj:i<y.length
  ·have ey:=hw.bk hj;generalize y.getD i 0=q at*
   simp only [go_sem,ya,yh,CC,hw.len,show (i:Int)<x.length by omega,show (i:Int)<y.length by omega,ex,ey,e1,dj 0 0 (show i<n by omega),yd,kI (l:=out) (o:=i) (by omega)]
   refine ⟨_,k-1,rfl,by omega,i+1,(p+q+c)/18446744073709551616,_,?_,by omega,by simp [hlen],by omega,mr bq (x:=(p+q+c)%18446744073709551616) (i:=i) (by omega),kT,fun m hm=>?_⟩
   ·rw [wrap64 (by omega) (by omega)];simp only [go_sem,ya,yb,ay,aJ hv.pu,aO _ hv.pu,aJ hw.pu,aO _ hw.pu]<;>rfl
   ·rw [oH (by omega)];exact gM m (by omega)
  ·have iV:y.getD i 0=0:=SK (by omega);rw [iV] at kT e1;rw [show (uc 0)=AV.int .u64 0 from rfl] at e1
   simp only [go_sem,ya,yh,CC,hw.len,show (i:Int)<x.length by omega,show ¬(i:Int)<y.length by omega,ex,e1,dj 0 0 (show i<n by omega),yd,kI (l:=out) (o:=i) (by omega)]
   refine ⟨_,k-1,rfl,by omega,i+1,(p+0+c)/18446744073709551616,_,?_,by omega,by simp [hlen],by omega,mr bq (x:=(p+0+c)%18446744073709551616) (i:=i) (by omega),kT,fun m hm=>?_⟩
   ·rw [wrap64 (by omega) (by omega)];simp only [go_sem,ya,yb,ay,aJ hv.pu,aO _ hv.pu,aJ hw.pu,aO _ hw.pu]<;>rfl
   ·rw [oH (by omega)];exact gM m (by omega)
 ·right
  have:i=x.length:=by omega
  subst this;rw [wo,yM ly] at aQ;simp only [go_sem,ya,CC,show ¬(x.length:Int)<x.length by omega];exact ⟨_,_,rfl,by simp,_,c,out,rfl,rfl,by simp only [go_sem,ya],by simp only [go_sem,ya],by simp only [go_sem,ya],hlen,hc,bq,aQ,gM _ (yC _)⟩
def avz (h:Has P L 157 Jt) (mI:Has P L 166 Bs) (gT:L.pure 171=some nE) {v w:AV} {x y:List Nat} (hv:bJ v x) (hw:bJ w y) (hx:lo 18446744073709551616 x) (hy:lo 18446744073709551616 y) (lx:x.length<=99999999999) (ly:y.length<=99999999999):
  ∃r out,ae P L 157 [v,w] r/\bJ r out/\lo 18446744073709551616 out/\gL out/\bv 18446744073709551616 out=bv 18446744073709551616 x+bv 18446744073709551616 y:=by
 have fin:∀{x y o:List Nat} {n c:Nat},n=x.length+1->x.length<=99999999999->o.length=n->c<=1->lo 18446744073709551616 o->bv 18446744073709551616 o+18446744073709551616^x.length*c=bv 18446744073709551616 x+bv 18446744073709551616 y->o.getD x.length 0=0->
   ∃r,bO P L (D P L) 166 [.aE true n ((o.set x.length c).map uc)]=some r/\bJ r (ew (o.set x.length c))/\lo 18446744073709551616 (ew (o.set x.length c))/\gL (ew (o.set x.length c))/\bv 18446744073709551616 (ew (o.set x.length c))=bv 18446744073709551616 x+bv 18446744073709551616 y:=by
  intro x y o n c hn lx hlen hc bq aQ hz;have aW:=nG (b:=18446744073709551616) (l:=o) (i:=x.length) (x:=c) (by omega);rw [hz,xF,yX,aQ] at aW;have avA:lo 18446744073709551616 (o.set x.length c):=mr bq (by omega);have hf:=mT true (o.set x.length c);rw [List.length_set,hlen] at hf;obtain ⟨r,e1,hr⟩:=BB mI hf (by simp;omega);exact ⟨r,e1,hr,AX avA,AW _,by rw [AU];exact aW⟩
 by_cases hl:x.length<y.length
 ·obtain ⟨n,hn⟩:∃n,n=y.length+1:=⟨_,rfl⟩;unfold ae;rw [av h]
  simp only [go_sem,ya,yb,Jt,hv.len,hw.len,show (x.length:Int)<y.length by omega,wrapN (n:=n) (by omega),show (y.length:Int)+1=((y.length+1:Nat):Int) from rfl,<-hn,Df (n:=n) _ (by omega)];generalize hq:D P L (.loop [0,1,5,6,21,22] CC) _=q;obtain ⟨ex,s,rfl,tm,c,o,rfl,rfl,t0,t5,t6,hlen,hc,bq,aQ,hz⟩:=bP hq (adA (P:=P) (L:=L) gT hw hv hy hx ly (by omega) hn y.length)
   ⟨0,0,yz n 0,by simp only [go_sem,ya,yb,ay,aJ hv.pu,aO _ hv.pu,aJ hw.pu,aO _ hw.pu]<;>rfl,by omega,by simp,by omega,EL (by decide) n,by rw [EM];simp [bv],fun m _=>Cv n m⟩
  obtain ⟨r,e1,hr,f1,f2,f3⟩:=fin hn ly hlen hc bq aQ hz;refine ⟨r,_,?_,hr,f1,f2,by rw [f3];omega⟩
  simp only [go_sem,ya,yh,ay,aJ hw.pu,aO _ hw.pu,hw.len,t0,t5,t6,dj 0 0 (show y.length<n by omega),yd,kI (l:=o) (o:=y.length) (by omega)]
  simp only [go_sem,BA _ (n:=n) (l:=o.set y.length c) (by simp [hlen]) true,e1,hr.shut,hr.dT]
 ·obtain ⟨n,hn⟩:∃n,n=x.length+1:=⟨_,rfl⟩;unfold ae;rw [av h]
  simp only [go_sem,ya,yb,Jt,hv.len,hw.len,show ¬(x.length:Int)<y.length by omega,wrapN (n:=n) (by omega),show (x.length:Int)+1=((x.length+1:Nat):Int) from rfl,<-hn,Df (n:=n) _ (by omega)];generalize hq:D P L (.loop [0,1,5,6,21,22] CC) _=q;obtain ⟨ex,s,rfl,tm,c,o,rfl,rfl,t0,t5,t6,hlen,hc,bq,aQ,hz⟩:=bP hq (adA (P:=P) (L:=L) gT hv hw hx hy lx (by omega) hn x.length)
   ⟨0,0,yz n 0,by simp only [go_sem,ya,yb,ay,aJ hv.pu,aO _ hv.pu,aJ hw.pu,aO _ hw.pu]<;>rfl,by omega,by simp,by omega,EL (by decide) n,by rw [EM];simp [bv],fun m _=>Cv n m⟩
  obtain ⟨r,e1,hr,f1,f2,f3⟩:=fin hn lx hlen hc bq aQ hz;refine ⟨r,_,?_,hr,f1,f2,f3⟩
  simp only [go_sem,ya,yh,ay,aJ hv.pu,aO _ hv.pu,hv.len,t0,t5,t6,dj 0 0 (show x.length<n by omega),yd,kI (l:=o) (o:=x.length) (by omega)]
  simp only [go_sem,BA _ (n:=n) (l:=o.set x.length c) (by simp [hlen]) true,e1,hr.shut,hr.dT]
end
end
section
open Go (IntKind)
def alu {b:Nat} {out:List Nat} {p j c t o x y Y bo ba:Nat} (ho:o=out.getD j 0) (hj:j<out.length) (ht:t=o+x*y+c) (hv:bo+p*c=ba+p*(x*Y)) (hb:bo=bv b out) (hp:p=b^j):
  bv b (out.set j (t%b))+p*b*(t/b)=ba+p*(x*(Y+0))+p*(x*y):=by
 have h1:=nG (b:=b) (x:=t%b) hj;have h2:=LZ p b t
 grind
section
variable {P:aG} {L:Lib}
def RZ {x y c:Nat} (hx:x<18446744073709551616) (hy:y<18446744073709551616) (hc:c<=1):
  (x+18446744073709551616*2-y-c)%18446744073709551616+y+c=x+18446744073709551616*(if y+c<=x then 0 else 1):=by grind
def asj (rQ:L.pure 173=some A4) {v w:AV} {x y:List Nat} (hv:bJ v x) (hw:bJ w y) (hx:lo 18446744073709551616 x) (hy:lo 18446744073709551616 y) (lx:x.length<=99999999999) (ly:y.length<=x.length) (hle:bv 18446744073709551616 y<=bv 18446744073709551616 x) {n:Nat} (hn:n=x.length):
  ∀k s,(∃(i c:Nat) (out:List Nat),bD [0,1,5,6,13,14] s=⟨[(0,v),(1,w),(5,.an 0 0 n),(6,uc c),(13,aa x.length),(14,aa i)],[(0,.cells true true true 1 (out.map uc))],1,0⟩/\i+k=x.length/\out.length=n/\c<=1/\lo 18446744073709551616 out/\
    bv 18446744073709551616 out+bv 18446744073709551616 (y.take i)=bv 18446744073709551616 (x.take i)+18446744073709551616^i*c/\(∀m,i<=m->out.getD m 0=0))->
   ∃ex s',D P L (.loop [0,1,5,6,13,14] EC) s=some (ex,s')/\∃tm out,s'=⟨tm,[(0,.cells true true true 1 (out.map uc))],1,0⟩/\ex= .exit 0/\af tm 5= .an 0 0 n/\out.length=n/\lo 18446744073709551616 out/\
    bv 18446744073709551616 out+bv 18446744073709551616 y=bv 18446744073709551616 x:=by
 refine cg (I:=fun k s=>∃(i c:Nat) (out:List Nat),s=⟨[(0,v),(1,w),(5,.an 0 0 n),(6,uc c),(13,aa x.length),(14,aa i)],[(0,.cells true true true 1 (out.map uc))],1,0⟩/\i+k=x.length/\out.length=n/\c<=1/\lo 18446744073709551616 out/\
    bv 18446744073709551616 out+bv 18446744073709551616 (y.take i)=bv 18446744073709551616 (x.take i)+18446744073709551616^i*c/\(∀m,i<=m->out.getD m 0=0))
  (Q:=fun ex s'=>∃tm out,s'=⟨tm,[(0,.cells true true true 1 (out.map uc))],1,0⟩/\ex= .exit 0/\af tm 5= .an 0 0 n/\out.length=n/\lo 18446744073709551616 out/\
    bv 18446744073709551616 out+bv 18446744073709551616 y=bv 18446744073709551616 x) ?_
 rintro k s ⟨i,c,out,rfl,hk,hlen,hc,bq,aQ,gM⟩;by_cases hi:i<x.length
 ·left
  have hz:=gM i (yC _);have gx:=gP (show 0<18446744073709551616 by decide) hx i;have gy:=gP (show 0<18446744073709551616 by decide) hy i;have sG:=RZ gx gy hc;have kT:=alt (x:=x) (y:=y) (show i<out.length by omega) hz sG aQ;have e1:=SO (P:=P) (f:=D P L) rQ gx gy hc;have ex:=hv.bk hi;generalize x.getD i 0=p at*
  have ma:(if y.getD i 0+c<=p then 0 else 1)<=1:=by split<;>omega
  by_cases hj:i<y.length
  ·have ey:=hw.bk hj;generalize y.getD i 0=q at*
   generalize (if q+c<=p then 0 else 1)=c1 at*
   simp only [go_sem,ya,xQ,yh,EC,hw.len,show (i:Int)<x.length by omega,show (i:Int)<y.length by omega,ex,ey,e1,dj 0 0 (show i<n by omega),yd,kI (l:=out) (o:=i) (by omega)]
   refine ⟨_,k-1,rfl,by omega,i+1,c1,_,?_,by omega,by simp [hlen],ma,mr bq (x:=(p+18446744073709551616*2-q-c)%18446744073709551616) (i:=i) (by omega),kT,fun m hm=>?_⟩
   ·rw [wrap64 (by omega) (by omega)];simp only [go_sem,ya,yb,xQ,ay,aJ hv.pu,aO _ hv.pu,aJ hw.pu,aO _ hw.pu]<;>rfl
   ·rw [oH (by omega)];exact gM m (by omega)
  ·have iV:y.getD i 0=0:=SK (by omega);rw [iV] at kT e1 ma;rw [show (uc 0)=AV.int .u64 0 from rfl] at e1;generalize (if 0+c<=p then 0 else 1)=c1 at*
   simp only [go_sem,ya,xQ,yh,EC,hw.len,show (i:Int)<x.length by omega,show ¬(i:Int)<y.length by omega,ex,e1,dj 0 0 (show i<n by omega),yd,kI (l:=out) (o:=i) (by omega)]
   refine ⟨_,k-1,rfl,by omega,i+1,c1,_,?_,by omega,by simp [hlen],ma,mr bq (x:=(p+18446744073709551616*2-0-c)%18446744073709551616) (i:=i) (by omega),kT,fun m hm=>?_⟩
   ·rw [wrap64 (by omega) (by omega)];simp only [go_sem,ya,yb,xQ,ay,aJ hv.pu,aO _ hv.pu,aJ hw.pu,aO _ hw.pu]<;>rfl
   ·rw [oH (by omega)];exact gM m (by omega)
 ·right
  have:i=x.length:=by omega
  subst this;rw [wo,yM ly] at aQ;have bi:=mz bq;rw [hlen,hn] at bi;simp only [go_sem,ya,EC,show ¬(x.length:Int)<x.length by omega];refine ⟨_,_,rfl,by simp,_,out,rfl,rfl,by simp only [go_sem,ya],hlen,bq,?_⟩;rcases (show c=0\/c=1 by omega) with rfl | rfl
  ·omega
  ·omega
def afM (h:Has P L 159 Oe) (mI:Has P L 166 Bs) (rQ:L.pure 173=some A4) {v w:AV} {x y:List Nat} (hv:bJ v x) (hw:bJ w y) (hx:lo 18446744073709551616 x) (hy:lo 18446744073709551616 y) (ny:gL y) (lx:x.length<=99999999999) (hle:bv 18446744073709551616 y<=bv 18446744073709551616 x):
  ∃r out,ae P L 159 [v,w] r/\bJ r out/\lo 18446744073709551616 out/\gL out/\bv 18446744073709551616 out+bv 18446744073709551616 y=bv 18446744073709551616 x:=by
 have ly:y.length<=x.length:=by
  by_cases hh:x.length<y.length
  ·have:=MN (b:=18446744073709551616) (by decide) hx ny hh
   omega
  ·omega
 obtain ⟨n,hn⟩:∃n,n=x.length:=⟨_,rfl⟩;unfold ae;rw [av h]
 simp only [go_sem,ya,yb,Oe,hv.len,<-hn,Df (n:=n) _ (by omega)];generalize hq:D P L (.loop [0,1,5,6,13,14] EC) _=q;obtain ⟨ex,s,rfl,tm,o,rfl,rfl,t5,hlen,bq,aQ⟩:=bP hq (asj (P:=P) (L:=L) rQ hv hw hx hy lx ly hle hn x.length)
  ⟨0,0,yz n 0,by rw [hn];simp only [go_sem,ya,yb,ay,aJ hv.pu,aO _ hv.pu,aJ hw.pu,aO _ hw.pu]<;>rfl,by omega,by simp,by omega,EL (by decide) n,by rw [EM];simp [bv],fun m _=>Cv n m⟩
 have hf:=mT true o;rw [hlen] at hf;obtain ⟨r,e1,hr⟩:=BB mI hf (by omega);refine ⟨r,_,?_,hr,AX bq,AW _,by rw [AU];exact aQ⟩
 simp only [go_sem,yb,ay,t5,BA _ (n:=n) (l:=o) hlen true,e1,hr.shut,hr.dT]
def anN {x y o c:Nat} (hx:x<18446744073709551616) (hy:y<18446744073709551616) (ho:o<18446744073709551616) (hc:c<18446744073709551616):
  o+x*y+c<18446744073709551616*18446744073709551616/\
  ((x*y%18446744073709551616+o+0)%18446744073709551616+c+0)%18446744073709551616=(o+x*y+c)%18446744073709551616/\
  x*y/18446744073709551616+(x*y%18446744073709551616+o+0)/18446744073709551616+((x*y%18446744073709551616+o+0)%18446744073709551616+c+0)/18446744073709551616=(o+x*y+c)/18446744073709551616:=by
 have h1:=wU (show x<=18446744073709551615 by omega) (show y<=18446744073709551615 by omega);generalize x*y=q at*
 omega
def asl (mJ:L.pure 143=some rq) (gT:L.pure 171=some nE) {v w:AV} {x y:List Nat} (hv:bJ v x) (hw:bJ w y) (hx:lo 18446744073709551616 x) (hy:lo 18446744073709551616 y) (lx:x.length<=49999999999) (ly:y.length<=49999999999) {n i:Nat} (hn:n=x.length+y.length) (hi:i<x.length) {a:Nat} (ha:a<18446744073709551616) {bo:Nat}:
  ∀k s,(∃(j c:Nat) (out:List Nat),bD [1,5,6,7,8,20,21,22,27,28,29] s=⟨[(1,w),(5,.an 0 0 n),(6,aa i),(7,uc a),(8,uc c),(20,v),(21,aa x.length),(22,aa i),(27,w),(28,aa y.length),(29,aa j)],[(0,.cells true true true 1 (out.map uc))],1,0⟩/\j+k=y.length/\out.length=n/\c<18446744073709551616/\lo 18446744073709551616 out/\
    bv 18446744073709551616 out+18446744073709551616^(i+j)*c=bo+18446744073709551616^i*(a*bv 18446744073709551616 (y.take j))/\(∀m,i+y.length<=m->out.getD m 0=0))->
   ∃ex s',D P L (.loop [1,5,6,7,8,20,21,22,27,28,29] IC) s=some (ex,s')/\∃tm c out,s'=⟨tm,[(0,.cells true true true 1 (out.map uc))],1,0⟩/\ex= .exit 2/\af tm 1=w/\af tm 5= .an 0 0 n/\af tm 6=aa i/\af tm 8=uc c/\af tm 20=v/\af tm 21=aa x.length/\af tm 22=aa i/\out.length=n/\c<18446744073709551616/\lo 18446744073709551616 out/\
    bv 18446744073709551616 out+18446744073709551616^(i+y.length)*c=bo+18446744073709551616^i*(a*bv 18446744073709551616 y)/\(∀m,i+y.length<=m->out.getD m 0=0):=by
 refine cg (I:=fun k s=>∃(j c:Nat) (out:List Nat),s=⟨[(1,w),(5,.an 0 0 n),(6,aa i),(7,uc a),(8,uc c),(20,v),(21,aa x.length),(22,aa i),(27,w),(28,aa y.length),(29,aa j)],[(0,.cells true true true 1 (out.map uc))],1,0⟩/\j+k=y.length/\out.length=n/\c<18446744073709551616/\lo 18446744073709551616 out/\
    bv 18446744073709551616 out+18446744073709551616^(i+j)*c=bo+18446744073709551616^i*(a*bv 18446744073709551616 (y.take j))/\(∀m,i+y.length<=m->out.getD m 0=0))
  (Q:=fun ex s'=>∃tm c out,s'=⟨tm,[(0,.cells true true true 1 (out.map uc))],1,0⟩/\ex= .exit 2/\af tm 1=w/\af tm 5= .an 0 0 n/\af tm 6=aa i/\af tm 8=uc c/\af tm 20=v/\af tm 21=aa x.length/\af tm 22=aa i/\out.length=n/\c<18446744073709551616/\lo 18446744073709551616 out/\
    bv 18446744073709551616 out+18446744073709551616^(i+y.length)*c=bo+18446744073709551616^i*(a*bv 18446744073709551616 y)/\(∀m,i+y.length<=m->out.getD m 0=0)) ?_
 rintro k s ⟨j,c,out,rfl,hk,hlen,hc,bq,aQ,gM⟩;by_cases hj:j<y.length
 ·left
  have BV:(0:Nat)<18446744073709551616:=by decide
  have gy:=gP BV hy j;have nn:=gP BV bq (i+j);have ey:=hw.bk hj;have e3:=zB (l:=out) (o:=i+j) (by omega);obtain ⟨q,hq⟩:∃q,q=y.getD j 0:=⟨_,rfl⟩;obtain ⟨o,ho⟩:∃o,o=out.getD (i+j) 0:=⟨_,rfl⟩;rw [<-hq] at gy ey;rw [<-ho] at nn e3;obtain ⟨m1,m2,m3⟩:=anN ha gy nn hc;have hpy:a*q<18446744073709551616*18446744073709551616:=by omega
  have f1:=M9 (P:=P) (f:=D P L) mJ ha gy;have f2:=CN (P:=P) (f:=D P L) gT (x:=a*q%18446744073709551616) (y:=o) (c:=0) (xy _ BV) nn (by omega);have f3:=CN (P:=P) (f:=D P L) gT (x:=(a*q%18446744073709551616+o+0)%18446744073709551616) (y:=c) (c:=0) (xy _ BV) hc (by omega);obtain ⟨t,ht⟩:∃t,t=o+a*q+c:=⟨_,rfl⟩;have kT:=alu (b:=18446744073709551616) (out:=out) (p:=18446744073709551616^(i+j)) (j:=i+j) (c:=c) (t:=t) (x:=a) (y:=q) (Y:=0) (ba:=bo+18446744073709551616^i*(a*bv 18446744073709551616 (y.take j))) ho (by omega) ht (by simpa using aQ) rfl rfl;rw [m2,<-ht] at f3;rw [<-ht] at m1 m3;obtain ⟨d1,jB⟩:∃d,d=(a*q%18446744073709551616+o+0)/18446744073709551616:=⟨_,rfl⟩;obtain ⟨d2,dU⟩:∃d,d=((a*q%18446744073709551616+o+0)%18446744073709551616+c+0)/18446744073709551616:=⟨_,rfl⟩;rw [<-jB] at f2 m3;rw [<-dU] at f3 m3
  rw [show (uc 0)=AV.int .u64 0 from rfl] at f2 f3;obtain ⟨h1,jk⟩:∃d,d=a*q/18446744073709551616:=⟨_,rfl⟩;rw [<-jk] at f1 m3;have nj:h1+d1<18446744073709551616:=by omega
  have Ah:h1+d1+d2<18446744073709551616:=by omega
  simp only [go_sem,ya,yh,IC,show (j:Int)<y.length by omega,ey,f1,wrapN (n:=i+j) (by omega),show (i:Int)+(j:Int)=((i+j:Nat):Int) from rfl,dj 0 0 (show i+j<n by omega),yd,e3,f2,f3,show (h1:Int)+(d1:Int)=((h1+d1:Nat):Int) from rfl,ae7 nj,show ((h1+d1:Nat):Int)+(d2:Int)=((h1+d1+d2:Nat):Int) from rfl,ae7 Ah,kI (l:=out) (o:=i+j) (by omega)]
  refine ⟨_,k-1,rfl,by omega,j+1,h1+d1+d2,_,?_,by omega,by simp [hlen],Ah,mr bq (x:=t%18446744073709551616) (i:=i+j) (xy _ BV),?_,fun m hm=>?_⟩
  ·rw [wrap64 (by omega) (by omega)];simp only [go_sem,ya,yb,ay,aJ hv.pu,aO _ hv.pu,aJ hw.pu,aO _ hw.pu]<;>rfl
  ·rw [m3,show i+(j+1)=i+j+1 by omega,xg,jv,<-hq,xt a,xt (18446744073709551616^i)];simp only [xF,yX] at kT;rw [kT,wC,<-Nat.add_assoc,xk (18446744073709551616^i),<-xk a,xE a (18446744073709551616^j),xk]
  ·rw [oH (by omega)];exact gM m hm
 ·right
  have:j=y.length:=by omega
  subst this;rw [wo] at aQ;simp only [go_sem,ya,IC,show ¬(y.length:Int)<y.length by omega];exact ⟨_,_,rfl,by simp,_,c,out,rfl,rfl,by simp only [go_sem,ya],by simp only [go_sem,ya],by simp only [go_sem,ya],by simp only [go_sem,ya],by simp only [go_sem,ya],by simp only [go_sem,ya],by simp only [go_sem,ya],hlen,hc,bq,aQ,gM⟩
def asm (mJ:L.pure 143=some rq) (gT:L.pure 171=some nE) {v w:AV} {x y:List Nat} (hv:bJ v x) (hw:bJ w y) (hx:lo 18446744073709551616 x) (hy:lo 18446744073709551616 y) (lx:x.length<=49999999999) (ly:y.length<=49999999999) {n:Nat} (hn:n=x.length+y.length):
  ∀k s,(∃(i:Nat) (out:List Nat),bD [1,5,20,21,22] s=⟨[(1,w),(5,.an 0 0 n),(20,v),(21,aa x.length),(22,aa i)],[(0,.cells true true true 1 (out.map uc))],1,0⟩/\i+k=x.length/\out.length=n/\lo 18446744073709551616 out/\
    bv 18446744073709551616 out=bv 18446744073709551616 (x.take i)*bv 18446744073709551616 y/\(∀m,i+y.length<=m->out.getD m 0=0))->
   ∃ex s',D P L (.loop [1,5,20,21,22] ID) s=some (ex,s')/\∃tm out,s'=⟨tm,[(0,.cells true true true 1 (out.map uc))],1,0⟩/\ex= .exit 0/\af tm 5= .an 0 0 n/\out.length=n/\lo 18446744073709551616 out/\
    bv 18446744073709551616 out=bv 18446744073709551616 x*bv 18446744073709551616 y:=by
 refine cg (I:=fun k s=>∃(i:Nat) (out:List Nat),s=⟨[(1,w),(5,.an 0 0 n),(20,v),(21,aa x.length),(22,aa i)],[(0,.cells true true true 1 (out.map uc))],1,0⟩/\i+k=x.length/\out.length=n/\lo 18446744073709551616 out/\
    bv 18446744073709551616 out=bv 18446744073709551616 (x.take i)*bv 18446744073709551616 y/\(∀m,i+y.length<=m->out.getD m 0=0))
  (Q:=fun ex s'=>∃tm out,s'=⟨tm,[(0,.cells true true true 1 (out.map uc))],1,0⟩/\ex= .exit 0/\af tm 5= .an 0 0 n/\out.length=n/\lo 18446744073709551616 out/\
    bv 18446744073709551616 out=bv 18446744073709551616 x*bv 18446744073709551616 y) ?_
 rintro k s ⟨i,out,rfl,hk,hlen,bq,aQ,gM⟩;by_cases hi:i<x.length
 ·left
  have gx:=gP (show 0<18446744073709551616 by decide) hx i;have ex:=hv.bk hi;obtain ⟨a,ha⟩:∃a,a=x.getD i 0:=⟨_,rfl⟩;rw [<-ha] at gx ex;simp only [go_sem,ya,ID,hw.len,show (i:Int)<x.length by omega,ex];generalize hq:D P L (.loop [1,5,6,7,8,20,21,22,27,28,29] IC) _=q;obtain ⟨ex,s,rfl,tm,c,rR,rfl,rfl,t1,t5,t6,t8,t20,t21,t22,CU,hc,avB,Tl,JW⟩:=bP hq (asl (P:=P) (L:=L) mJ gT hv hw hx hy lx ly hn hi gx (bo:=bv 18446744073709551616 out) y.length)
   ⟨0,0,out,by simp only [go_sem,ya,yb,ay,aJ hv.pu,aO _ hv.pu,aJ hw.pu,aO _ hw.pu]<;>rfl,by omega,hlen,by decide,bq,by simp [bv],gM⟩
  have hz:rR.getD (i+y.length) 0=0:=JW _ (yC _);have aW:=nG (b:=18446744073709551616) (l:=rR) (i:=i+y.length) (x:=c) (by omega);rw [hz,xF,yX,Tl] at aW
  simp only [go_sem,ya,yh,ay,t1,t5,t6,t8,t20,t21,t22,hw.len,aJ hv.pu,aO _ hv.pu,aJ hw.pu,aO _ hw.pu,wrapN (n:=i+y.length) (by omega),show (i:Int)+(y.length:Int)=((i+y.length:Nat):Int) from rfl,dj 0 0 (show i+y.length<n by omega),yd,kI (l:=rR) (o:=i+y.length) (by omega)];refine ⟨_,k-1,rfl,by omega,i+1,rR.set (i+y.length) c,?_,by omega,by simp [CU],mr avB hc,?_,fun m hm=>?_⟩
  ·rw [wrap64 (by omega) (by omega)];simp only [go_sem,ya,yb,ay,aJ hv.pu,aO _ hv.pu,aJ hw.pu,aO _ hw.pu]<;>rfl
  ·rw [aW,aQ,jv,wj,<-ha,xk]
  ·rw [oH (by omega)];exact JW m (by omega)
 ·right
  have:i=x.length:=by omega
  subst this;rw [wo] at aQ;simp only [go_sem,ya,ID,show ¬(x.length:Int)<x.length by omega];exact ⟨_,_,rfl,by simp,_,out,rfl,rfl,by simp only [go_sem,ya],hlen,bq,aQ⟩
def avC (h:Has P L 144 Ob) (mI:Has P L 166 Bs) (mJ:L.pure 143=some rq) (gT:L.pure 171=some nE) {v w:AV} {x y:List Nat} (hv:bJ v x) (hw:bJ w y) (hx:lo 18446744073709551616 x) (hy:lo 18446744073709551616 y) (lx:x.length<=49999999999) (ly:y.length<=49999999999):
  ∃r out,ae P L 144 [v,w] r/\bJ r out/\lo 18446744073709551616 out/\gL out/\bv 18446744073709551616 out=bv 18446744073709551616 x*bv 18446744073709551616 y:=by
 obtain ⟨n,hn⟩:∃n,n=x.length+y.length:=⟨_,rfl⟩;unfold ae;rw [av h]
 simp only [go_sem,ya,yb,Ob,hv.len,hw.len,wrapN (n:=n) (by omega),show (x.length:Int)+(y.length:Int)=((x.length+y.length:Nat):Int) from rfl,<-hn,Df (n:=n) _ (by omega)];generalize hq:D P L (.loop [1,5,20,21,22] ID) _=q;obtain ⟨ex,s,rfl,tm,o,rfl,rfl,t5,hlen,bq,aQ⟩:=bP hq (asm (P:=P) (L:=L) mJ gT hv hw hx hy lx ly hn x.length)
  ⟨0,yz n 0,by simp only [go_sem,ya,yb,ay,aJ hv.pu,aO _ hv.pu,aJ hw.pu,aO _ hw.pu]<;>rfl,by omega,by simp,EL (by decide) n,by rw [EM];simp [bv],fun m _=>Cv n m⟩
 have hf:=mT true o;rw [hlen] at hf;obtain ⟨r,e1,hr⟩:=BB mI hf (by omega);unfold ae at e1;refine ⟨r,_,?_,hr,AX bq,AW _,by rw [AU];exact aQ⟩
 simp only [go_sem,yb,ay,t5,BA _ (n:=n) (l:=o) hlen true,e1,hr.shut,hr.dT]
end
end
section
open Go (IntKind)
def NF (n:Int):IntKind.wrap .u64 n=n%18446744073709551616:=by
 simp [IntKind.wrap,IntKind.signed,IntKind.bits]
def wrapM (n:Nat):IntKind.wrap .u64 (n:Int)=((n%18446744073709551616:Nat):Int):=by rw [NF];omega
def oZ (a b:Nat):binOp .mul (uc a) (uc b)=some (uc (a*b%18446744073709551616)):=by
 rw [abQ,<-wE,wrapM]
def Bj (a b:Nat):binOp .add (uc a) (uc b)=some (uc ((a+b)%18446744073709551616)):=by
 rw [abP,<-Int.natCast_add,wrapM]
def Dg {a b c:Nat} (h:(a+18446744073709551616-b)%18446744073709551616=c) (hb:b<=18446744073709551616):binOp .sub (uc a) (uc b)=some (uc c):=by
 rw [MO,NF]
 grind
def asn (k k':yV) (a b:Int):binOp .shl (.int k a) (.int k' b)=Cs .shl k a b:=rfl
def aso (k k':yV) (a b:Int):binOp .shr (.int k a) (.int k' b)=Cs .shr k a b:=rfl
def JX (k:yV) (a:Nat) {s:Nat} (hs:s<=64):binOp .shl (.int .u64 (a:Int)) (.int k (s:Int))=some (uc (a*2^s%18446744073709551616)):=by
 rw [asn];simp only [Cs,yB (show ¬(s:Int)<0 by omega),xI,IntKind.bits,wu hs];rw [show ((2:Int)^s)=((2^s:Nat):Int) by simp,<-wE,wrapM]
def JY (k:yV) (a:Nat) {s:Nat} (hs:s<=64):binOp .shr (.int .u64 (a:Int)) (.int k (s:Int))=some (uc (a/2^s)):=by
 rw [aso];simp only [Cs,yB (show ¬(s:Int)<0 by omega),xI,IntKind.bits,wu hs]
 grind
def afN (a:Nat):binOp .and (.int .u64 (a:Int)) (.int .u64 4294967295)=some (uc (a%4294967296)):=by
 show some (AV.int .u64 (IntKind.wrap .u64 ((xG 64 (a:Int)&&&xG 64 4294967295).toNat:Int)))=_
 rw [show xG 64 (a:Int)=vW 64 a from vX 64 a,show xG 64 4294967295=vW 64 4294967295 from rfl];rw [BitVec.toNat_and,wW,wW,show (4294967295%2^64:Nat)=2^32-1 from rfl,Nat.and_two_pow_sub_one_eq_mod,wrapM]
 grind
def Ww {a b:Nat} (ha:a<18446744073709551616) (hb:b<18446744073709551616):binOp .or (.int .u64 (a:Int)) (.int .u64 (b:Int))=some (uc (a|||b)):=by
 show some (AV.int .u64 (IntKind.wrap .u64 ((xG 64 (a:Int)|||xG 64 (b:Int)).toNat:Int)))=_
 congr 2
 rw [show xG 64 (a:Int)=vW 64 a from vX 64 a,show xG 64 (b:Int)=vW 64 b from vX 64 b];rw [BitVec.toNat_or,wW,wW,yP (show a<2^64 from ha),yP (show b<2^64 from hb),wrapM]
 have:a|||b<2^64:=Nat.or_lt_two_pow ha hb
 omega
def SP {p s c:Nat} (h:c<2^s):(p*2^s)|||c=p*2^s+c:=by
 rw [<-Nat.shiftLeft_eq,<-Nat.shiftLeft_add_eq_or_of_lt h]
def YW:∀(f n:Nat),n<2^f->eS f n<=f/\n<2^eS f n/\(0<n->0<eS f n/\2^(eS f n-1)<=n)
 | 0,n,h=>by simp [eS];simpa using h
 | f+1,n,h=>by
  simp only [eS];by_cases h0:n=0
  ·simp_all
  ·rw [cG h0,yA];obtain ⟨h1,h2,h3⟩:=YW f (n/2) (by omega);refine ⟨by omega,?_,fun _=>⟨by omega,?_⟩⟩
   ·grind
   ·rw [Nat.add_sub_cancel_left];by_cases hn:0<n/2
    ·obtain ⟨h4,h5⟩:=h3 hn;obtain ⟨m,hm⟩:∃m,eS f (n/2)=m+1:=⟨eS f (n/2)-1,by omega⟩
     grind
    ·have hz:n/2=0:=by omega
     have:eS f 0=0:=by cases f with
      | zero=>rfl
      | succ f=>rfl
     grind
def R0 {y:Nat} (h0:0<y) (h:y<18446744073709551616):64-eS 64 y<64/\9223372036854775808<=y*2^(64-eS 64 y)/\y*2^(64-eS 64 y)<18446744073709551616:=by
 obtain ⟨h1,h2,h3⟩:=YW 64 y h;obtain ⟨h4,h5⟩:=h3 h0;generalize eS 64 y=k at*
 refine ⟨by omega,?_,?_⟩
 ·have:=yW (2^(64-k)) h5
  rw [<-wC,show k-1+(64-k)=63 by omega] at this;exact this
 ·have:=wD h2 (wG (64-k))
  rw [<-wC,show k+(64-k)=64 by omega] at this;exact this
section
variable {P:aG} {L:Lib} {f:cK}
def adB (h:L.pure 167=some EZ) {x:Nat} (hx:x<18446744073709551616):bO P L f 167 [uc x]=some (aa (64-eS 64 x:Nat)):=by
 rw [js h];show (bif yK x 18446744073709551616 then _ else none)=_
 rw [jM hx];rfl
def alv {b v1 v2 u u2 t r:Nat} (cX:v2<b) (kH:t<b) (ht:t*v1+r=u) (h:b<=r\/t*v2<=b*r+u2):t*(v1*b+v2)<=u*b+u2:=by
 have h2:t*v2<=b*r+u2:=by
  rcases h with h | h
  ·have:=wU (uU kH) (uU cX)
   have:=yS b h
   omega
  ·exact h
 rw [xt,<-xk,<-ht,wj,xE r b];omega
def aun (n:Nat):oT (.toInt .u64) (.int .i64 (n:Int))=some (uc (n%18446744073709551616)):=by
 show some (AV.int .u64 (IntKind.wrap .u64 (n:Int)))=_
 rw [wrapM]
def Yl {y v1 v2 u u2 q r:Nat} (hy:y=v1*4294967296+v2) (cX:v2<4294967296) (F3:0<v1) (eG:v1<4294967296) (hu:u<y) (Ao:u2<4294967296) (hq:q*v1+r=u) (hr:r<4294967296) (hQ:(u*4294967296+u2)/y<=q):
  (4294967296<=q\/4294967296*r+u2<q*v2->0<q/\(q-1)*v1+(r+v1)=u/\(u*4294967296+u2)/y<=q-1/\(4294967296<=r+v1->(u*4294967296+u2)/y=q-1))/\
  (¬4294967296<=q->q*v2<=4294967296*r+u2->(u*4294967296+u2)/y=q):=by
 have iV:0<y:=by omega
 have F5:∀t s,t*v1+s=u->4294967296<=t->s<4294967296:=fun t s h1 h2=>by
  have:=yW v1 h2
  grind
 have adC:∀t s,t*v1+s=u->t<4294967296->(4294967296<=s\/t*v2<=4294967296*s+u2)->(u*4294967296+u2)/y<=t->(u*4294967296+u2)/y=t:=fun t s h1 h2 h3 h4=>by
  have:=alv cX h2 h1 h3
  rw [<-hy] at this
  have:=(Nat.le_div_iff_mul_le iV).2 this
  omega
 constructor
 ·intro h;have Aq:0<q:=by
   grind
  have h1:(q-1)*v1+(r+v1)=u:=by
   obtain ⟨p,rfl⟩:∃p,q=p+1:=⟨q-1,by omega⟩
   grind
  have h2:(u*4294967296+u2)/y<=q-1:=by
   have bi:u*4294967296+u2<q*y:=by
    rcases h with h | h
    ·have h3:u*4294967296+u2<4294967296*y:=by omega
     exact Nat.lt_of_lt_of_le h3 (yW y h)
    ·rw [hy,xt,<-xk,<-hq,wj,xE r];omega
   have:=(wz iV).2 bi
   omega
  exact ⟨Aq,h1,h2,fun h3=>adC _ _ h1 (by
   by_cases hb:4294967296<=q-1
   ·have:=F5 _ _ h1 hb;omega
   ·omega) (.inl h3) h2⟩
 ·intro h1 h2;exact adC q r hq (by omega) (.inr h2) hQ
def asp {y s v1 v2 u u2 z:Nat} (hy:y=v1*4294967296+v2) (cX:v2<4294967296) (F3:0<v1) (eG:v1<4294967296) (hu:u<y) (Ao:u2<4294967296):
  ∀k st,(∃q r:Nat,bD [2,8,9,10,11,13,14,15,16] st=⟨[(2,uc y),(8,uc s),(9,uc v1),(10,uc v2),(11,uc u),(13,uc u2),(14,uc z),(15,uc q),(16,uc r)],[],0,0⟩/\q*v1+r=u/\r<4294967296/\(u*4294967296+u2)/y<=q/\q=k)->
   ∃ex st',D P L (.loop [2,8,9,10,11,13,14,15,16] A5) st=some (ex,st')/\∃tm ct,st'=⟨tm,[],ct,0⟩/\ex= .exit 0/\af tm 2=uc y/\af tm 8=uc s/\af tm 9=uc v1/\af tm 10=uc v2/\af tm 11=uc u/\af tm 13=uc u2/\af tm 14=uc z/\af tm 15=uc ((u*4294967296+u2)/y):=by
 refine cg (I:=fun k st=>∃q r:Nat,st=⟨[(2,uc y),(8,uc s),(9,uc v1),(10,uc v2),(11,uc u),(13,uc u2),(14,uc z),(15,uc q),(16,uc r)],[],0,0⟩/\q*v1+r=u/\r<4294967296/\(u*4294967296+u2)/y<=q/\q=k)
  (Q:=fun ex st'=>∃tm ct,st'=⟨tm,[],ct,0⟩/\ex= .exit 0/\af tm 2=uc y/\af tm 8=uc s/\af tm 9=uc v1/\af tm 10=uc v2/\af tm 11=uc u/\af tm 13=uc u2/\af tm 14=uc z/\af tm 15=uc ((u*4294967296+u2)/y)) ?_
 rintro k st ⟨q,r,rfl,hq,hr,hQ,rfl⟩;obtain ⟨g1,g2⟩:=Yl hy cX F3 eG hu Ao hq hr hQ;have hqb:q*1<=q*v1:=yS q F3;have avD:=yW 4294967296 (show v1<=4294967295 by omega);have ol:q<18446744073709551616:=by omega
 have KC:=yS 4294967296 (show r<=4294967295 by omega);have e1:=oZ 4294967296 r;rw [show uc 4294967296=AV.int .u64 4294967296 from rfl,yP (show 4294967296*r<18446744073709551616 by omega)] at e1;have e2:=Bj (4294967296*r) u2;rw [yP (show 4294967296*r+u2<18446744073709551616 by omega)] at e2;have e4:=Bj r v1;rw [yP (show r+v1<18446744073709551616 by omega)] at e4;by_cases hc:4294967296<=q\/4294967296*r+u2<q*v2
 ·obtain ⟨h0,h1,h2,h3⟩:=g1 hc;have e3:binOp .sub (uc q) (.int .u64 1)=some (uc (q-1)):=Dg (b:=1) (by omega) (by omega);by_cases hb:4294967296<=r+v1
  ·right
   have As:=h3 hb;rcases (show 4294967296<=q\/(¬4294967296<=q/\4294967296*r+u2<q*v2) by omega) with t1 | ⟨t1,t2⟩
   ·simp only [go_sem,ya,A5,show (4294967296:Int)<=(q:Int) by omega,e3,e4,show (4294967296:Int)<=((r+v1:Nat):Int) by omega];exact ⟨_,_,rfl,by simp,_,_,rfl,rfl,by simp only [go_sem,ya],by simp only [go_sem,ya],by simp only [go_sem,ya],by simp only [go_sem,ya],by simp only [go_sem,ya],by simp only [go_sem,ya],by simp only [go_sem,ya],by rw [As];simp only [go_sem,ya]⟩
   ·have Wx:=wU (show q<=4294967295 by omega) (show v2<=4294967295 by omega);have e5:=oZ q v2;rw [yP (show q*v2<18446744073709551616 by omega)] at e5;simp only [go_sem,ya,A5,show ¬(4294967296:Int)<=(q:Int) by omega,e5,e1,e2,show ((4294967296*r+u2:Nat):Int)<((q*v2:Nat):Int) by omega,e3,e4,show (4294967296:Int)<=((r+v1:Nat):Int) by omega];exact ⟨_,_,rfl,by simp,_,_,rfl,rfl,by simp only [go_sem,ya],by simp only [go_sem,ya],by simp only [go_sem,ya],by simp only [go_sem,ya],by simp only [go_sem,ya],by simp only [go_sem,ya],by simp only [go_sem,ya],by rw [As];simp only [go_sem,ya]⟩
  ·left
   rcases (show 4294967296<=q\/(¬4294967296<=q/\4294967296*r+u2<q*v2) by omega) with t1 | ⟨t1,t2⟩
   ·simp only [go_sem,ya,A5,show (4294967296:Int)<=(q:Int) by omega,e3,e4,show ¬(4294967296:Int)<=((r+v1:Nat):Int) by omega];exact ⟨_,q-1,rfl,by omega,q-1,r+v1,by simp only [go_sem,ya,ay],h1,by omega,h2,rfl⟩
   ·have Wx:=wU (show q<=4294967295 by omega) (show v2<=4294967295 by omega);have e5:=oZ q v2;rw [yP (show q*v2<18446744073709551616 by omega)] at e5;simp only [go_sem,ya,A5,show ¬(4294967296:Int)<=(q:Int) by omega,e5,e1,e2,show ((4294967296*r+u2:Nat):Int)<((q*v2:Nat):Int) by omega,e3,e4,show ¬(4294967296:Int)<=((r+v1:Nat):Int) by omega];exact ⟨_,q-1,rfl,by omega,q-1,r+v1,by simp only [go_sem,ya,ay],h1,by omega,h2,rfl⟩
 ·right
  have As:=g2 (by omega) (by omega);have e5:=oZ q v2;rw [yP (show q*v2<18446744073709551616 by omega)] at e5;simp only [go_sem,ya,A5,show ¬(4294967296:Int)<=(q:Int) by omega,e5,e1,e2,show ¬((4294967296*r+u2:Nat):Int)<((q*v2:Nat):Int) by omega];exact ⟨_,_,rfl,by simp,_,_,rfl,rfl,by simp only [go_sem,ya],by simp only [go_sem,ya],by simp only [go_sem,ya],by simp only [go_sem,ya],by simp only [go_sem,ya],by simp only [go_sem,ya],by simp only [go_sem,ya],by rw [As];simp only [go_sem,ya]⟩
end
end
section
open Go (IntKind)
section
variable {P:aG} {L:Lib} {f:cK}
def asq {y s v1 v2 u u2 z:Nat} (hy:y=v1*4294967296+v2) (cX:v2<4294967296) (F3:0<v1) (eG:v1<4294967296) (hu:u<y) (Ao:u2<4294967296):
  ∀k st,(∃q r:Nat,bD [2,8,9,10,14,15,16,17,18] st=⟨[(2,uc y),(8,uc s),(9,uc v1),(10,uc v2),(14,uc u2),(15,uc z),(16,uc r),(17,uc u),(18,uc q)],[],0,0⟩/\q*v1+r=u/\r<4294967296/\(u*4294967296+u2)/y<=q/\q=k)->
   ∃ex st',D P L (.loop [2,8,9,10,14,15,16,17,18] A6) st=some (ex,st')/\∃tm ct,st'=⟨tm,[],ct,0⟩/\ex= .exit 2/\af tm 2=uc y/\af tm 8=uc s/\af tm 9=uc v1/\af tm 10=uc v2/\af tm 14=uc u2/\af tm 15=uc z/\af tm 17=uc u/\af tm 18=uc ((u*4294967296+u2)/y):=by
 refine cg (I:=fun k st=>∃q r:Nat,st=⟨[(2,uc y),(8,uc s),(9,uc v1),(10,uc v2),(14,uc u2),(15,uc z),(16,uc r),(17,uc u),(18,uc q)],[],0,0⟩/\q*v1+r=u/\r<4294967296/\(u*4294967296+u2)/y<=q/\q=k)
  (Q:=fun ex st'=>∃tm ct,st'=⟨tm,[],ct,0⟩/\ex= .exit 2/\af tm 2=uc y/\af tm 8=uc s/\af tm 9=uc v1/\af tm 10=uc v2/\af tm 14=uc u2/\af tm 15=uc z/\af tm 17=uc u/\af tm 18=uc ((u*4294967296+u2)/y)) ?_
 rintro k st ⟨q,r,rfl,hq,hr,hQ,rfl⟩;obtain ⟨g1,g2⟩:=Yl hy cX F3 eG hu Ao hq hr hQ;have hqb:q*1<=q*v1:=yS q F3;have avD:=yW 4294967296 (show v1<=4294967295 by omega);have ol:q<18446744073709551616:=by omega
 have KC:=yS 4294967296 (show r<=4294967295 by omega);have e1:=oZ 4294967296 r;rw [show uc 4294967296=AV.int .u64 4294967296 from rfl,yP (show 4294967296*r<18446744073709551616 by omega)] at e1;have e2:=Bj (4294967296*r) u2;rw [yP (show 4294967296*r+u2<18446744073709551616 by omega)] at e2;have e4:=Bj r v1;rw [yP (show r+v1<18446744073709551616 by omega)] at e4;by_cases hc:4294967296<=q\/4294967296*r+u2<q*v2
 ·obtain ⟨h0,h1,h2,h3⟩:=g1 hc;have e3:binOp .sub (uc q) (.int .u64 1)=some (uc (q-1)):=Dg (b:=1) (by omega) (by omega);by_cases hb:4294967296<=r+v1
  ·right
   have As:=h3 hb;rcases (show 4294967296<=q\/(¬4294967296<=q/\4294967296*r+u2<q*v2) by omega) with t1 | ⟨t1,t2⟩
   ·simp only [go_sem,ya,A6,show (4294967296:Int)<=(q:Int) by omega,e3,e4,show (4294967296:Int)<=((r+v1:Nat):Int) by omega];exact ⟨_,_,rfl,by simp,_,_,rfl,rfl,by simp only [go_sem,ya],by simp only [go_sem,ya],by simp only [go_sem,ya],by simp only [go_sem,ya],by simp only [go_sem,ya],by simp only [go_sem,ya],by simp only [go_sem,ya],by rw [As];simp only [go_sem,ya]⟩
   ·have Wx:=wU (show q<=4294967295 by omega) (show v2<=4294967295 by omega);have e5:=oZ q v2;rw [yP (show q*v2<18446744073709551616 by omega)] at e5;simp only [go_sem,ya,A6,show ¬(4294967296:Int)<=(q:Int) by omega,e5,e1,e2,show ((4294967296*r+u2:Nat):Int)<((q*v2:Nat):Int) by omega,e3,e4,show (4294967296:Int)<=((r+v1:Nat):Int) by omega];exact ⟨_,_,rfl,by simp,_,_,rfl,rfl,by simp only [go_sem,ya],by simp only [go_sem,ya],by simp only [go_sem,ya],by simp only [go_sem,ya],by simp only [go_sem,ya],by simp only [go_sem,ya],by simp only [go_sem,ya],by rw [As];simp only [go_sem,ya]⟩
  ·left
   rcases (show 4294967296<=q\/(¬4294967296<=q/\4294967296*r+u2<q*v2) by omega) with t1 | ⟨t1,t2⟩
   ·simp only [go_sem,ya,A6,show (4294967296:Int)<=(q:Int) by omega,e3,e4,show ¬(4294967296:Int)<=((r+v1:Nat):Int) by omega];exact ⟨_,q-1,rfl,by omega,q-1,r+v1,by simp only [go_sem,ya,ay],h1,by omega,h2,rfl⟩
   ·have Wx:=wU (show q<=4294967295 by omega) (show v2<=4294967295 by omega);have e5:=oZ q v2;rw [yP (show q*v2<18446744073709551616 by omega)] at e5;simp only [go_sem,ya,A6,show ¬(4294967296:Int)<=(q:Int) by omega,e5,e1,e2,show ((4294967296*r+u2:Nat):Int)<((q*v2:Nat):Int) by omega,e3,e4,show ¬(4294967296:Int)<=((r+v1:Nat):Int) by omega];exact ⟨_,q-1,rfl,by omega,q-1,r+v1,by simp only [go_sem,ya,ay],h1,by omega,h2,rfl⟩
 ·right
  have As:=g2 (by omega) (by omega);have e5:=oZ q v2;rw [yP (show q*v2<18446744073709551616 by omega)] at e5;simp only [go_sem,ya,A6,show ¬(4294967296:Int)<=(q:Int) by omega,e5,e1,e2,show ¬((4294967296*r+u2:Nat):Int)<((q*v2:Nat):Int) by omega];exact ⟨_,_,rfl,by simp,_,_,rfl,rfl,by simp only [go_sem,ya],by simp only [go_sem,ya],by simp only [go_sem,ya],by simp only [go_sem,ya],by simp only [go_sem,ya],by simp only [go_sem,ya],by simp only [go_sem,ya],by rw [As];simp only [go_sem,ya]⟩
def ae8 (a:Nat):binOp .shr (.int .u64 (a:Int)) (.int .u64 32)=some (uc (a/4294967296)):=JY .u64 a (s:=32) (by decide)
def afO (a:Nat) {b:Nat} (ha:a<18446744073709551616) (hb:0<b):binOp .quo (uc a) (uc b)=some (uc (a/b)):=by
 rw [eU _ _ _ (by omega),Int.tdiv_eq_ediv_of_nonneg (by omega),<-Int.natCast_ediv,wrapM,yP];exact wJ (vA a b) ha
def avE (a:Nat) {b:Nat} (hb:0<b):binOp .rem (uc a) (uc b)=some (uc (a%b)):=by
 rw [er _ _ _ (by omega),Int.tmod_eq_emod_of_nonneg (by omega),<-Int.natCast_emod]
def alw {hi lo y s u z Y:Nat} (hs:s<64) (bq:lo<18446744073709551616) (hY:Y=y*2^s) (hu:u=hi*2^s+lo/2^(64-s)) (hz:z=lo*2^s%18446744073709551616):
  (hi*18446744073709551616+lo)*2^s=u*18446744073709551616+z:=by
 have e:18446744073709551616=2^(64-s)*2^s:=by rw [<-wC,show 64-s+s=64 by omega]
 have h1:lo*2^s/18446744073709551616=lo/2^(64-s):=by
  rw [e,tv _ _ (wG s)]
 grind
def ZJ {Y q a b:Nat} (h1:a<Y) (h2:b<4294967296) (h3:q=(a*4294967296+b)/Y):q<4294967296:=by
 rw [h3];exact (wz (by omega)).2 (by omega)
def anO {u w x z z0 z1 q0 q1 Y:Nat} (jB:q1*Y+w=u*4294967296+z1) (iE:q0*Y+x=w*4294967296+z0) (hz:z=z1*4294967296+z0):u*18446744073709551616+z=(q1*4294967296+q0)*Y+x:=by grind
def ajR {q1 q0:Nat} (h1:q1<4294967296) (h0:q0<4294967296):q1*4294967296<18446744073709551616/\q1*4294967296+q0<18446744073709551616:=by omega
def afP (h:Has P L 165 Ju) (JZ:L.pure 167=some EZ) {hi lo y:Nat} (gM:hi<y) (bq:lo<18446744073709551616) (hy:y<18446744073709551616):
  ae P L 165 [uc hi,uc lo,uc y] (.ap [uc ((hi*18446744073709551616+lo)/y),uc ((hi*18446744073709551616+lo)%y)]):=by
 have iV:0<y:=by omega
 by_cases h0:hi=0
 ·subst h0;have e1:=afO lo bq iV;have e2:=avE lo iV;rw [Nat.zero_mul,yd];unfold ae;rw [av h];simp only [go_sem,ya,Ju,show ¬(y:Int)=0 by omega,show ¬(y:Int)<=0 by omega,show ((0:Nat):Int)=0 from rfl,e1,e2];rfl
 ·obtain ⟨s,hs⟩:∃s,s=64-eS 64 y:=⟨_,rfl⟩;have hl:=adB (P:=P) (f:=D P L) JZ hy;obtain ⟨l1,l2,l3⟩:=R0 iV hy;rw [<-hs] at hl l1 l2 l3;obtain ⟨Y,hY⟩:∃Y,Y=y*2^s:=⟨_,rfl⟩;obtain ⟨u,hu⟩:∃u,u=hi*2^s+lo/2^(64-s):=⟨_,rfl⟩;obtain ⟨z,hz⟩:∃z,z=lo*2^s%18446744073709551616:=⟨_,rfl⟩;have hdiv:=alw l1 bq hY hu hz;rw [<-hY] at l2 l3;have hp:=wG s;obtain ⟨v1,eG⟩:∃v,v=Y/4294967296:=⟨_,rfl⟩;obtain ⟨v2,cX⟩:∃v,v=Y%4294967296:=⟨_,rfl⟩;have hYv:Y=v1*4294967296+v2:=by omega
  obtain ⟨z1,lV⟩:∃v,v=z/4294967296:=⟨_,rfl⟩;obtain ⟨z0,mb⟩:∃v,v=z%4294967296:=⟨_,rfl⟩;have F6:z<18446744073709551616:=by omega
  have hhY:hi*2^s<Y:=by rw [hY];exact wD gM hp
  have iR:lo/2^(64-s)<2^s:=by
   refine (wz (wG _)).2 ?_;rw [<-wC,show s+(64-s)=64 by omega];exact bq
  have oc:hi*2^s|||lo/2^(64-s)=u:=by rw [SP iR,hu]
  have hN:hi*18446744073709551616+lo<y*18446744073709551616:=by
   have:=yW 18446744073709551616 (show hi+1<=y from gM)
   omega
  have Wy:u<Y:=by
   have h1:=wD hN hp;rw [hdiv,Nat.mul_right_comm,<-hY] at h1;omega
  obtain ⟨q1,eN⟩:∃q,q=(u*4294967296+z1)/Y:=⟨_,rfl⟩;obtain ⟨w,hw⟩:∃q,q=(u*4294967296+z1)%Y:=⟨_,rfl⟩;obtain ⟨q0,Aq⟩:∃q,q=(w*4294967296+z0)/Y:=⟨_,rfl⟩;obtain ⟨x,hx⟩:∃q,q=(w*4294967296+z0)%Y:=⟨_,rfl⟩;have P4:w<Y:=by rw [hw];exact xy _ (by omega)
  have Wz:x<Y:=by rw [hx];exact xy _ (by omega)
  have jB:=wq (u*4294967296+z1) Y;rw [<-eN,<-hw,xE] at jB;have iE:=wq (w*4294967296+z0) Y;rw [<-Aq,<-hx,xE] at iE;have avF:=ZJ Wy (show z1<4294967296 by omega) eN;have avG:=ZJ P4 (show z0<4294967296 by omega) Aq;obtain ⟨td1,td2⟩:=ajR avF avG;have OK:(hi*18446744073709551616+lo)*2^s=(q1*4294967296+q0)*Y+x:=by
   rw [hdiv];exact anO jB iE (by omega)
  have r1:(hi*18446744073709551616+lo)/y=q1*4294967296+q0:=by
   rw [<-tv _ _ hp,OK,<-hY,xE _ Y,Nat.mul_add_div (by omega),Nat.div_eq_of_lt Wz,yX]
  have r2:x/2^s=(hi*18446744073709551616+lo)%y:=by
   have h1:x=(hi*18446744073709551616+lo)*2^s%(y*2^s):=by
    rw [OK,<-hY,xE _ Y,Nat.mul_add_mod,yP Wz]
   rw [h1,Nat.mul_mod_mul_right,Nat.mul_div_cancel _ hp]
  have o1:=JX .u64 y (s:=s) (by omega);rw [<-hY,yP l3] at o1;have o2:=ae8 Y;rw [<-eG] at o2;have o3:=afN Y;rw [<-cX] at o3;have o4:=JX .u64 hi (s:=s) (by omega);rw [yP (show hi*2^s<18446744073709551616 by omega)] at o4;have o5:binOp .sub (.int .u64 64) (uc s)=some (uc (64-s)):=Dg (a:=64) (by omega) (by omega);have o6:=JY .u64 lo (s:=64-s) (by omega);have o7:=Ww (a:=hi*2^s) (b:=lo/2^(64-s)) (by omega) (wJ (vA _ _) bq);rw [oc] at o7;have o8:=JX .u64 lo (s:=s) (by omega);rw [<-hz] at o8;have o9:=ae8 z;rw [<-lV] at o9;have o10:=afN z;rw [<-mb] at o10;have Fw:0<v1:=by omega
  have ae9:∀{a:Nat},a<Y->binOp .quo (uc a) (uc v1)=some (uc (a/v1))/\binOp .mul (uc (a/v1)) (uc v1)=some (uc (a/v1*v1))/\binOp .sub (uc a) (uc (a/v1*v1))=some (uc (a%v1)):=fun {a} ha=>by
   have h1:=wq a v1;rw [xE] at h1;have h2:=oZ (a/v1) v1;generalize a/v1*v1=m at*
   rw [yP (show m<18446744073709551616 by omega)] at h2;exact ⟨afO a (by omega) Fw,h2,Dg (by omega) (by omega)⟩
  obtain ⟨g1,g2,g3⟩:=ae9 Wy;obtain ⟨g4,g5,g6⟩:=ae9 P4;have first:∀{a b:Nat},b<4294967296->(a*4294967296+b)/Y<=a/v1:=fun {a b} hb=>by
   have:=QG (b:=4294967296) (V:=Y) (v1:=v1) (v2:=v2) (vr:=0) (U:=a*4294967296+b) (u0:=0) (u1:=a) (u2:=b) (ur:=0) (p:=1) (by omega) (by omega) (by decide) hb Fw
   simpa using this
  have back:∀{a b q x:Nat},a*4294967296+b=q*Y+x->x<Y->binOp .mul (uc a) (.int .u64 4294967296)=some (uc (a*4294967296%18446744073709551616))/\binOp .add (uc (a*4294967296%18446744073709551616)) (uc b)=some (uc ((a*4294967296%18446744073709551616+b)%18446744073709551616))/\
    binOp .mul (uc q) (uc Y)=some (uc (q*Y%18446744073709551616))/\binOp .sub (uc ((a*4294967296%18446744073709551616+b)%18446744073709551616)) (uc (q*Y%18446744073709551616))=some (uc x):=fun {a b q x} h1 h2=>by
   refine ⟨oZ a 4294967296,Bj _ _,oZ q Y,Dg ?_ (by omega)⟩;generalize q*Y=m at*
   omega
  obtain ⟨k1,k2,k3,k4⟩:=back jB.symm P4;obtain ⟨k5,k6,k7,k8⟩:=back iE.symm Wz;have m1:=oZ q1 4294967296;rw [yP td1,show uc 4294967296=AV.int .u64 4294967296 from rfl] at m1;have m2:=Bj (q1*4294967296) q0;rw [yP td2] at m2;have m3:=JY .u64 x (s:=s) (by omega);rw [r1,<-r2];unfold ae;rw [av h];simp only [go_sem,ya,Ju,show ¬(y:Int)=0 by omega,show ¬(y:Int)<=(hi:Int) by omega,show ¬(hi:Int)=0 by omega,hl,aun,yP (show s<18446744073709551616 by omega),o1,o2,o3,o4,o5,o6,o7,o8,o9,o10,g1,g2,g3];generalize mQ:D P L (.loop [2,8,9,10,11,13,14,15,16] A5) _=qq
  obtain ⟨ex,st,rfl,tm,ct,rfl,rfl,t2,t8,t9,t10,t11,t13,t14,t15⟩:=bP mQ (asp (P:=P) (L:=L) (s:=s) (z:=z0) hYv (by omega) Fw (by omega) Wy (show z1<4294967296 by omega) (u/v1)) ⟨u/v1,u%v1,by simp only [go_sem,ya,ay],by rw [xE];exact wq u v1,by have:=xy u Fw;omega,first (by omega),rfl⟩
  rw [<-eN] at t15;simp only [go_sem,ya,ay,t2,t8,t9,t10,t11,t13,t14,t15,k1,k2,k3,k4,g4,g5,g6];generalize Dh:D P L (.loop [2,8,9,10,14,15,16,17,18] A6) _=WA;obtain ⟨ex,st,rfl,jh,ct2,rfl,rfl,t2,t8,t9,t10,t14,t15,t17,t18⟩:=bP Dh (asq (P:=P) (L:=L) (s:=s) (z:=q1) hYv (by omega) Fw (by omega) P4 (show z0<4294967296 by omega) (w/v1)) ⟨w/v1,w%v1,by simp only [go_sem,ya,ay],by rw [xE];exact wq w v1,by have:=xy w Fw;omega,first (by omega),rfl⟩
  rw [<-Aq] at t18;simp only [go_sem,ya,ay,t2,t8,t14,t15,t17,t18,m1,m2,k5,k6,k7,k8,m3];rfl
end
end
end VE
