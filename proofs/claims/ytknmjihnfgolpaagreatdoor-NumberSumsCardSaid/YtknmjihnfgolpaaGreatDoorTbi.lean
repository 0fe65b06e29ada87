import Derived.Test.YtknmjihnfgolpaaGreatDoorTbe
import Derived.Test.YtknmjihnfgolpaaGreatDoorTbg
import Derived.Test.YtknmjihnfgolpaaGreatDoorTbh
set_option linter.all false
set_option maxRecDepth 100000
open Nat (reduceAdd reduceEqDiff)
section
namespace VE
open Go (IntKind)
abbrev uc (n:Nat):AV:= .int .u64 (n:Int)
def IsU (v:AV) (l:List Nat):Prop:=IsL v (l.map uc)
section
variable {v:AV} {l:List Nat}
theorem IsU.len (h:IsU v l) {hp:Hp}:zcl hp 1 v=some (.int .i64 (l.length:Nat)):=by
 have:=IsL.len (hp:=hp) h
 rwa [List.length_map] at this
theorem IsU.pu (h:IsU v l):zA v=true:=IsL.pu h
theorem IsU.frz (h:IsU v l) (n:Nat) {hp:Hp}:zal (n+1) hp v=some (v,hp):=IsL.frz h n
theorem IsU.shut (h:IsU v l):VE.shut v=v:=IsL.shut h
theorem IsU.shut1 (h:IsU v l):VE.shut1 v=v:=IsL.shut1 h
theorem IsU.res (h:IsU v l) {hp:Hp}:zaR hp v=some v:=IsL.res h
theorem IsU.one (h:IsU v l):zag v=true:=IsL.one h
theorem IsU.cells (h:IsU v l):cellsOf v=[v]:=IsL.cells h
theorem IsU.ixa (h:IsU v l) {i:Nat} (hi:i<l.length):zdl 1 i v=some (.vptr (uc (l.getD i 0)::(l.map uc).drop (i+1))):=by
 have:=IsL.ixa h (i:=i) (by simpa using hi)
 rw [this];simp [List.getD_eq_getElem?_getD,List.getElem?_eq_getElem hi]
theorem zbY (e:Bool) (l:List Nat):IsU (.vsl e l.length (l.map uc)) l:=by
 have:=zmA e (l.map uc)
 rwa [List.length_map] at this
theorem zcM:IsU .nils []:=zd7
end
theorem stU {hp:Hp} {ct id o:Nat} {v:Nat} {ex:Bool} {l:List Nat} (h:o<l.length):stC hp ct id o 1 [.int .u64 (v:Int)] (some (.cells true true ex 1 (l.map uc)))=some (.tup [],zad hp id (.cells true true ex 1 ((l.set o v).map uc)),ct):=by
 rw [zn8 (by rfl) (by simp;omega) (by rfl)]
 have:zck o [uc v] (l.map uc)=(l.set o v).map uc:=by
  simp only [zck,List.length_cons,List.length_nil,Nat.zero_add];rw [List.map_set,List.set_eq_take_append_cons_drop,if_pos (by simpa using h)]
  simp
 rw [this];rfl
theorem zhj {l:List Nat} {o:Nat} (h:o<l.length):List.drop o (l.map uc)=uc (l.getD o 0)::List.drop (o+1) (l.map uc):=by
 rw [List.drop_eq_getElem_cons (by simpa using h)];simp [List.getD_eq_getElem?_getD,List.getElem?_eq_getElem h]
theorem zCe (n:Nat):(List.replicate n [AV.int .u64 0]).flatten=(List.replicate n 0).map uc:=by
 induction n with
 | zero=>rfl
 | succ n ih=>simp only [List.replicate_succ,List.flatten_cons,ih,List.map_cons];rfl
theorem zpi (ct:Nat) {n:Nat} (h:n≤100000000000):zod ct 1 8 [.int .u64 0] (some n) (some n)=some (.osl ct 0 n,.cells true true true 1 ((List.replicate n 0).map uc)):=by
 rw [zml (sz:=1) (by omega) (by omega) (by rfl) (by rfl),zCe];rfl
theorem zoo (hp:Hp) {n:Nat} {l:List Nat} (h:l.length=n) (ex:Bool):zgb 0 n (some (ex,1,l.map uc,hp))=some (.vsl ex n (l.map uc),hp):=zdq ex (by simp [h]) (by decide)
theorem zDM {n:Nat} (h:n<18446744073709551616):IntKind.wrap .u64 (n:Int)=n:=zNd (by omega) (by omega)
section
variable {P:zU} {L:Lib} {f:Run}
theorem zdo {a b:Nat} (h:a<b):Nat.blt a b=true:=Nat.ble_eq_true_of_le h
theorem zgT (h:L.pure 171=some zdd) {x y c:Nat} (hx:x<18446744073709551616) (hy:y<18446744073709551616) (hc:c≤1):
  zj P L f 171 [uc x,uc y,uc c]=some (.tup [uc ((x+y+c)%18446744073709551616),uc ((x+y+c)/18446744073709551616)]):=by
 rw [zaI h];show (bif Nat.ble c 1&&(Nat.blt x 18446744073709551616&&Nat.blt y 18446744073709551616) then _ else none)=_
 rw [Nat.ble_eq_true_of_le hc,zdo hx,zdo hy];rfl
theorem zpT (h:L.pure 173=some zfE) {x y c:Nat} (hx:x<18446744073709551616) (hy:y<18446744073709551616) (hc:c≤1):
  zj P L f 173 [uc x,uc y,uc c]=some (.tup [uc ((x+18446744073709551616*2-y-c)%18446744073709551616),uc (if y+c≤x then 0 else 1)]):=by
 rw [zaI h];show (bif Nat.ble c 1&&(Nat.blt x 18446744073709551616&&Nat.blt y 18446744073709551616) then _ else none)=_
 rw [Nat.ble_eq_true_of_le hc,zdo hx,zdo hy];simp only [Bool.and_self,cond_true,Option.some.injEq,AV.tup.injEq,List.cons.injEq,AV.int.injEq,true_and,and_true];by_cases hh:y+c≤x
 ·rw [Nat.ble_eq_true_of_le hh,if_pos hh];rfl
 ·have:Nat.ble (y+c) x=false:=by
   cases hq:Nat.ble (y+c) x with
   | false=>rfl
   | true=>exact absurd (Nat.le_of_ble_eq_true hq) hh
  rw [this,if_neg hh];rfl
theorem zmw (h:L.pure 143=some zev) {x y:Nat} (hx:x<18446744073709551616) (hy:y<18446744073709551616):
  zj P L f 143 [uc x,uc y]=some (.tup [uc (x*y/18446744073709551616),uc (x*y%18446744073709551616)]):=by
 rw [zaI h];show (bif Nat.blt x 18446744073709551616&&Nat.blt y 18446744073709551616 then _ else none)=_
 rw [zdo hx,zdo hy];rfl
theorem zyF {hp:Hp} {tm:Env} {x:X} (hx:zaw tm 0 (some x)=some 0):zbn hp (.sl 1) .nils tm none (some x)=some .nils:=by
 simp only [zbn,hx,zap]
theorem zn4 (h:Has P L 166 zoi) {v:AV} {l:List Nat} (hv:IsU v l) (hl:l.length≤100000000000):∃r,zF P L 166 [v] r∧IsU r (zaP l):=by
 rcases hv with ⟨rfl,h0⟩ | ⟨e,rfl⟩
 ·have:l=[]:=by simpa using h0
  subst this;refine ⟨.nils,?_,zd7⟩;unfold zF;rw [zd h];simp only [go_sem,reduceEqDiff,zoi,zmP,zgG,za,show ¬(0:Int)<0 by decide,zyF,zab]
 ·have key:=zT (P:=P) (L:=L) (live:=[0,3]) (a:=zgG)
   (I:=fun k st=>∃(i:Nat),st=⟨[(0,.vsl e l.length (l.map uc)),(3,zf i)],[],0,0⟩∧i≤l.length∧i=k∧zaP (l.take i)=zaP l)
   (Q:=fun ex st=>∃tm ct,st=⟨tm,[],ct,0⟩∧ex= .exit 0∧∃i:Nat,zc tm 0= .vsl e l.length (l.map uc)∧zc tm 3=zf i∧i≤l.length∧l.take i=zaP l) ?_
  ·have hlen:(l.map uc).length=l.length:=by simp
   rw [hlen];have goal:∃i e',zF P L 166 [.vsl e l.length (l.map uc)] (.vsl e' i ((l.take i).map uc))∧i≤l.length∧l.take i=zaP l:=by
    unfold zF;rw [zd h];simp only [go_sem,reduceEqDiff,zoi];generalize hq:D P L (.loop [0,3] zgG) _=q;obtain ⟨ex,st,rfl,tm,ct,rfl,rfl,i,h2,h3,h4,h5⟩:=zae hq (key l.length) ⟨l.length,by simp only [go_sem,reduceEqDiff,za],Nat.le_refl _,rfl,by rw [List.take_length]⟩;have hcut:∀tm x,zaw tm l.length (some x)=some i→zbn [] (.sl 1) (.vsl e l.length (l.map uc)) tm none (some x)=some (.vsl (e&&Nat.beq i l.length) i ((l.map uc).take i)):=fun tm x hx=>zrh hx h4
    simp only [go_sem,reduceEqDiff,za,h2,h3,hcut,zab];exact ⟨i,_,by rw [List.map_take],h4,h5⟩
   obtain ⟨i,e',g1,g2,g3⟩:=goal;refine ⟨_,g1,?_⟩;rw [←g3]
   have:=zbY e' (l.take i)
   rwa [List.length_take,Nat.min_eq_left g2] at this
  ·rintro k st ⟨i,rfl,hi,rfl,ht⟩
   cases i with
   | zero=>
    right
    simp only [go_sem,reduceEqDiff,zgG,show ¬(0:Int)<((0:Nat):Int) by omega];exact ⟨_,_,rfl,by simp,_,_,rfl,rfl,0,by simp only [go_sem,reduceEqDiff],by simp only [go_sem,reduceEqDiff],Nat.zero_le _,by simpa [zaP] using ht⟩
   | succ i=>
    have hi1:i<l.length:=by omega
    have htk:l.take (i+1)=l.take i++[l[i]]:=List.take_succ_eq_append_getElem hi1;have hix:=(zbY e l).ixa hi1;rw [←gd hi1] at hix;by_cases h0:l[i]=0
    ·left
     simp only [go_sem,reduceEqDiff,zgG,show (0:Int)<((i+1:Nat):Int) by omega,show ((i+1:Nat):Int)-1=(i:Int) by omega,zB (n:=i) (by omega),hix,show ((l[i]:Nat):Int)=0 by omega];refine ⟨_,i,rfl,by omega,i,by simp only [go_sem,reduceEqDiff,za],by omega,rfl,?_⟩;rw [←ht,htk,h0,zff]
    ·right
     simp only [go_sem,reduceEqDiff,zgG,show (0:Int)<((i+1:Nat):Int) by omega,show ((i+1:Nat):Int)-1=(i:Int) by omega,zB (n:=i) (by omega),hix,show ¬((l[i]:Nat):Int)=0 by omega];refine ⟨_,_,rfl,by simp,_,_,rfl,rfl,i+1,by simp only [go_sem,reduceEqDiff],by simp only [go_sem,reduceEqDiff],by omega,?_⟩;rw [←ht,htk,zdf h0]
end
end VE
end
section
namespace VE
open Go (IntKind)
theorem ze2 (p b s:Nat):p*(s%b)+p*b*(s/b)=p*s:=by
 rw [Nat.mul_assoc,←Nat.mul_add,Nat.mod_add_div]
theorem zuy {b:Nat} {x y out:List Nat} {i c:Nat} (hi:i<out.length) (hz:out.getD i 0=0) (hv:bv b out+b^i*c=bv b (x.take i)+bv b (y.take i)):
  bv b (out.set i ((x.getD i 0+y.getD i 0+c)%b))+b^(i+1)*((x.getD i 0+y.getD i 0+c)/b)=bv b (x.take (i+1))+bv b (y.take (i+1)):=by
 have h1:=zc5 (b:=b) (x:=(x.getD i 0+y.getD i 0+c)%b) hi;have h2:=ze2 (b^i) b (x.getD i 0+y.getD i 0+c);rw [hz,Nat.mul_zero,Nat.add_zero] at h1;rw [za4,za4,Nat.pow_succ,h1];rw [Nat.mul_add,Nat.mul_add] at h2;omega
theorem zu3 {b:Nat} {x y out:List Nat} {i c z c':Nat} (hi:i<out.length) (hz:out.getD i 0=0) (hs:z+y.getD i 0+c=x.getD i 0+b*c') (hv:bv b out+bv b (y.take i)=bv b (x.take i)+b^i*c):
  bv b (out.set i z)+bv b (y.take (i+1))=bv b (x.take (i+1))+b^(i+1)*c':=by
 have h1:=zc5 (b:=b) (x:=z) hi;rw [hz,Nat.mul_zero,Nat.add_zero] at h1;rw [za4,za4,Nat.pow_succ,h1]
 have:=congrArg (fun q=>b^i*q) hs
 simp only [Nat.mul_add] at this;rw [Nat.mul_assoc (b^i) b c'];omega
section
variable {P:zU} {L:Lib}
theorem zOw (h:Has P L 158 zvC) {v w:AV} {x y:List Nat} (hv:IsU v x) (hw:IsU w y) (hx:lo 18446744073709551616 x) (hy:lo 18446744073709551616 y) (nx:nzN x) (ny:nzN y) (lx:x.length≤100000000000) (ly:y.length≤100000000000):
  zF P L 158 [v,w] (zf (zbH (bv 18446744073709551616 x) (bv 18446744073709551616 y))):=by
 unfold zF;rw [zd h];by_cases hlen:x.length=y.length
 ·have key:=zT (P:=P) (L:=L) (live:=[0,1,5]) (a:=zgE)
   (I:=fun k st=>∃j:Nat,st=⟨[(0,v),(1,w),(5,zf ((j:Int)-1))],[],0,0⟩∧j≤x.length∧j=k∧x.drop j=y.drop j)
   (Q:=fun ex st=>∃tm ct,st=⟨tm,[],ct,0⟩∧((ex= .ret∧zc tm 4=zf (zbH (bv 18446744073709551616 x) (bv 18446744073709551616 y)))∨(ex= .exit 0∧x=y))) ?_
  ·simp only [go_sem,reduceEqDiff,zvC,hv.len,hw.len,show (x.length:Int)=y.length by omega];generalize hq:D P L (.loop [0,1,5] zgE) _=q;obtain ⟨ex,st,rfl,tm,ct,rfl,h2⟩:=zae hq (key x.length) ⟨x.length,by
    rw [zg (by omega) (by omega),hlen]
    simp only [go_sem,reduceEqDiff,za,zb hv.pu,ze _ hv.pu,zb hw.pu,ze _ hw.pu]<;>rfl,Nat.le_refl _,rfl,by rw [List.drop_eq_nil_of_le (Nat.le_refl _),List.drop_eq_nil_of_le (by omega)]⟩
   rcases h2 with ⟨rfl,h2⟩ | ⟨rfl,h2⟩
   ·simp only [go_sem,h2]
   ·simp only [go_sem,za];subst h2;simp [zbH]
  ·rintro k st ⟨j,rfl,hj,rfl,he⟩
   cases j with
   | zero=>
    right
    simp only [go_sem,reduceEqDiff,zgE,show ¬(0:Int)≤((0:Nat):Int)-1 by omega];exact ⟨_,_,rfl,by simp,_,_,rfl,.inr ⟨rfl,by simpa using he⟩⟩
   | succ i=>
    have h1:i<x.length:=by omega
    have h2:i<y.length:=by omega
    have hgt:=zqW hx h1 h2 he;have hlt:=zqW hy h2 h1 he.symm;by_cases c0:x.getD i 0=y.getD i 0
    ·left
     simp only [go_sem,reduceEqDiff,zgE,show ((i+1:Nat):Int)-1=(i:Int) by omega,show (0:Int)≤(i:Int) by omega,hv.ixa h1,hw.ixa h2,c0];refine ⟨_,i,rfl,by omega,i,?_,by omega,rfl,?_⟩
     ·rw [zg (by omega) (by omega)];simp only [go_sem,reduceEqDiff,za,zb hv.pu,ze _ hv.pu,zb hw.pu,ze _ hw.pu]<;>rfl
     ·rw [List.drop_eq_getElem_cons h1,List.drop_eq_getElem_cons h2,he,gd h1,gd h2,c0]
    ·by_cases c1:x.getD i 0<y.getD i 0
     ·right
      simp only [go_sem,reduceEqDiff,zgE,show ((i+1:Nat):Int)-1=(i:Int) by omega,show (0:Int)≤(i:Int) by omega,hv.ixa h1,hw.ixa h2,show ¬((x.getD i 0:Nat):Int)=(y.getD i 0:Nat) by omega,show ((x.getD i 0:Nat):Int)<(y.getD i 0:Nat) by omega];refine ⟨_,_,rfl,by simp,_,_,rfl,.inl ⟨rfl,?_⟩⟩;simp only [go_sem];unfold zbH;rw [if_pos (hgt c1)]
     ·right
      simp only [go_sem,reduceEqDiff,zgE,show ((i+1:Nat):Int)-1=(i:Int) by omega,show (0:Int)≤(i:Int) by omega,hv.ixa h1,hw.ixa h2,show ¬((x.getD i 0:Nat):Int)=(y.getD i 0:Nat) by omega,show ¬((x.getD i 0:Nat):Int)<(y.getD i 0:Nat) by omega];refine ⟨_,_,rfl,by simp,_,_,rfl,.inl ⟨rfl,?_⟩⟩;simp only [go_sem]
      have:=hlt (by omega)
      unfold zbH;rw [if_neg (by omega),if_pos (by omega)]
 ·by_cases c1:x.length<y.length
  ·have:=zjp (b:=18446744073709551616) (by decide) hx ny c1
   simp only [go_sem,reduceEqDiff,zvC,hv.len,hw.len,show ¬(x.length:Int)=y.length by omega,show (x.length:Int)<y.length by omega];unfold zbH;rw [if_pos this]
  ·have:=zjp (b:=18446744073709551616) (by decide) hy nx (show y.length<x.length by omega)
   simp only [go_sem,reduceEqDiff,zvC,hv.len,hw.len,show ¬(x.length:Int)=y.length by omega,show ¬(x.length:Int)<y.length by omega];unfold zbH;rw [if_neg (by omega),if_pos this]
theorem zxs (h171:L.pure 171=some zdd) {v w:AV} {x y:List Nat} (hv:IsU v x) (hw:IsU w y) (hx:lo 18446744073709551616 x) (hy:lo 18446744073709551616 y) (lx:x.length≤99999999999) (ly:y.length≤x.length) {n:Nat} (hn:n=x.length+1):
  ∀k s,(∃(i c:Nat) (out:List Nat),zC [0,1,5,6,21,22] s=⟨[(0,v),(1,w),(5,.osl 0 0 n),(6,uc c),(21,zf x.length),(22,zf i)],[(0,.cells true true true 1 (out.map uc))],1,0⟩∧i+k=x.length∧out.length=n∧c≤1∧lo 18446744073709551616 out∧
    bv 18446744073709551616 out+18446744073709551616^i*c=bv 18446744073709551616 (x.take i)+bv 18446744073709551616 (y.take i)∧(∀m,i≤m→out.getD m 0=0))→
   ∃ex s',D P L (.loop [0,1,5,6,21,22] zgK) s=some (ex,s')∧∃tm c out,s'=⟨tm,[(0,.cells true true true 1 (out.map uc))],1,0⟩∧ex= .exit 0∧zc tm 0=v∧zc tm 5= .osl 0 0 n∧zc tm 6=uc c∧out.length=n∧c≤1∧lo 18446744073709551616 out∧
    bv 18446744073709551616 out+18446744073709551616^x.length*c=bv 18446744073709551616 x+bv 18446744073709551616 y∧out.getD x.length 0=0:=by
 refine zT (I:=fun k s=>∃(i c:Nat) (out:List Nat),s=⟨[(0,v),(1,w),(5,.osl 0 0 n),(6,uc c),(21,zf x.length),(22,zf i)],[(0,.cells true true true 1 (out.map uc))],1,0⟩∧i+k=x.length∧out.length=n∧c≤1∧lo 18446744073709551616 out∧
    bv 18446744073709551616 out+18446744073709551616^i*c=bv 18446744073709551616 (x.take i)+bv 18446744073709551616 (y.take i)∧(∀m,i≤m→out.getD m 0=0))
  (Q:=fun ex s'=>∃tm c out,s'=⟨tm,[(0,.cells true true true 1 (out.map uc))],1,0⟩∧ex= .exit 0∧zc tm 0=v∧zc tm 5= .osl 0 0 n∧zc tm 6=uc c∧out.length=n∧c≤1∧lo 18446744073709551616 out∧
    bv 18446744073709551616 out+18446744073709551616^x.length*c=bv 18446744073709551616 x+bv 18446744073709551616 y∧out.getD x.length 0=0) ?_
 rintro k s ⟨i,c,out,rfl,hk,hlen,hc,hlo,hval,hhi⟩;by_cases hi:i<x.length
 ·left
  have hz:=hhi i (Nat.le_refl _);have hstep:=zuy (x:=x) (y:=y) (show i<out.length by omega) hz hval;have gx:=za9 (show 0<18446744073709551616 by decide) hx i;have gy:=za9 (show 0<18446744073709551616 by decide) hy i;have e1:=zgT (P:=P) (f:=D P L) h171 gx gy hc;have ex:=hv.ixa hi;generalize x.getD i 0=p at*
  by_cases hj:i<y.length
  ·have ey:=hw.ixa hj;generalize y.getD i 0=q at*
   simp only [go_sem,reduceEqDiff,Nat.mul_one,zgK,hw.len,show (i:Int)<x.length by omega,show (i:Int)<y.length by omega,ex,ey,e1,zZ 0 0 (show i<n by omega),Nat.zero_add,stU (l:=out) (o:=i) (by omega)]
   refine ⟨_,k-1,rfl,by omega,i+1,(p+q+c)/18446744073709551616,_,?_,by omega,by simp [hlen],by omega,zcu hlo (x:=(p+q+c)%18446744073709551616) (i:=i) (by omega),hstep,fun m hm=>?_⟩
   ·rw [zg (by omega) (by omega)];simp only [go_sem,reduceEqDiff,reduceAdd,za,zb hv.pu,ze _ hv.pu,zb hw.pu,ze _ hw.pu]<;>rfl
   ·rw [zcq (by omega)];exact hhi m (by omega)
  ·have hy0:y.getD i 0=0:=zmK (by omega);rw [hy0] at hstep e1;rw [show (uc 0)=AV.int .u64 0 from rfl] at e1
   simp only [go_sem,reduceEqDiff,Nat.mul_one,zgK,hw.len,show (i:Int)<x.length by omega,show ¬(i:Int)<y.length by omega,ex,e1,zZ 0 0 (show i<n by omega),Nat.zero_add,stU (l:=out) (o:=i) (by omega)]
   refine ⟨_,k-1,rfl,by omega,i+1,(p+0+c)/18446744073709551616,_,?_,by omega,by simp [hlen],by omega,zcu hlo (x:=(p+0+c)%18446744073709551616) (i:=i) (by omega),hstep,fun m hm=>?_⟩
   ·rw [zg (by omega) (by omega)];simp only [go_sem,reduceEqDiff,reduceAdd,za,zb hv.pu,ze _ hv.pu,zb hw.pu,ze _ hw.pu]<;>rfl
   ·rw [zcq (by omega)];exact hhi m (by omega)
 ·right
  have:i=x.length:=by omega
  subst this;rw [List.take_length,List.take_of_length_le ly] at hval;simp only [go_sem,reduceEqDiff,zgK,show ¬(x.length:Int)<x.length by omega];exact ⟨_,_,rfl,by simp,_,c,out,rfl,rfl,by simp only [go_sem,reduceEqDiff],by simp only [go_sem,reduceEqDiff],by simp only [go_sem,reduceEqDiff],hlen,hc,hlo,hval,hhi _ (Nat.le_refl _)⟩
theorem zQx (h:Has P L 157 zxi) (h166:Has P L 166 zoi) (h171:L.pure 171=some zdd) {v w:AV} {x y:List Nat} (hv:IsU v x) (hw:IsU w y) (hx:lo 18446744073709551616 x) (hy:lo 18446744073709551616 y) (lx:x.length≤99999999999) (ly:y.length≤99999999999):
  ∃r out,zF P L 157 [v,w] r∧IsU r out∧lo 18446744073709551616 out∧nzN out∧bv 18446744073709551616 out=bv 18446744073709551616 x+bv 18446744073709551616 y:=by
 have fin:∀{x y o:List Nat} {n c:Nat},n=x.length+1→x.length≤99999999999→o.length=n→c≤1→lo 18446744073709551616 o→bv 18446744073709551616 o+18446744073709551616^x.length*c=bv 18446744073709551616 x+bv 18446744073709551616 y→o.getD x.length 0=0→
   ∃r,zj P L (D P L) 166 [.vsl true n ((o.set x.length c).map uc)]=some r∧IsU r (zaP (o.set x.length c))∧lo 18446744073709551616 (zaP (o.set x.length c))∧nzN (zaP (o.set x.length c))∧bv 18446744073709551616 (zaP (o.set x.length c))=bv 18446744073709551616 x+bv 18446744073709551616 y:=by
  intro x y o n c hn lx hlen hc hlo hval hz;have zad:=zc5 (b:=18446744073709551616) (l:=o) (i:=x.length) (x:=c) (by omega);rw [hz,Nat.mul_zero,Nat.add_zero,hval] at zad;have hlo2:lo 18446744073709551616 (o.set x.length c):=zcu hlo (by omega);have hf:=zbY true (o.set x.length c);rw [List.length_set,hlen] at hf;obtain ⟨r,e1,hr⟩:=zn4 h166 hf (by simp;omega);exact ⟨r,e1,hr,zdm hlo2,zdu _,by rw [zdn];exact zad⟩
 by_cases hl:x.length<y.length
 ·obtain ⟨n,hn⟩:∃n,n=y.length+1:=⟨_,rfl⟩;unfold zF;rw [zd h]
  simp only [go_sem,reduceEqDiff,reduceAdd,zxi,hv.len,hw.len,show (x.length:Int)<y.length by omega,zB (n:=n) (by omega),show (y.length:Int)+1=((y.length+1:Nat):Int) from rfl,←hn,zpi (n:=n) _ (by omega)];generalize hq:D P L (.loop [0,1,5,6,21,22] zgK) _=q;obtain ⟨ex,s,rfl,tm,c,o,rfl,rfl,t0,t5,t6,hlen,hc,hlo,hval,hz⟩:=zae hq (zxs (P:=P) (L:=L) h171 hw hv hy hx ly (by omega) hn y.length)
   ⟨0,0,List.replicate n 0,by simp only [go_sem,reduceEqDiff,reduceAdd,za,zb hv.pu,ze _ hv.pu,zb hw.pu,ze _ hw.pu]<;>rfl,by omega,by simp,by omega,zhR (by decide) n,by rw [zhQ];simp [bv],fun m _=>zeT n m⟩
  obtain ⟨r,e1,hr,f1,f2,f3⟩:=fin hn ly hlen hc hlo hval hz;refine ⟨r,_,?_,hr,f1,f2,by rw [f3];omega⟩
  simp only [go_sem,reduceEqDiff,Nat.mul_one,za,zb hw.pu,ze _ hw.pu,hw.len,t0,t5,t6,zZ 0 0 (show y.length<n by omega),Nat.zero_add,stU (l:=o) (o:=y.length) (by omega)]
  simp only [go_sem,zoo _ (n:=n) (l:=o.set y.length c) (by simp [hlen]) true,e1,hr.shut,hr.res]
 ·obtain ⟨n,hn⟩:∃n,n=x.length+1:=⟨_,rfl⟩;unfold zF;rw [zd h]
  simp only [go_sem,reduceEqDiff,reduceAdd,zxi,hv.len,hw.len,show ¬(x.length:Int)<y.length by omega,zB (n:=n) (by omega),show (x.length:Int)+1=((x.length+1:Nat):Int) from rfl,←hn,zpi (n:=n) _ (by omega)];generalize hq:D P L (.loop [0,1,5,6,21,22] zgK) _=q;obtain ⟨ex,s,rfl,tm,c,o,rfl,rfl,t0,t5,t6,hlen,hc,hlo,hval,hz⟩:=zae hq (zxs (P:=P) (L:=L) h171 hv hw hx hy lx (by omega) hn x.length)
   ⟨0,0,List.replicate n 0,by simp only [go_sem,reduceEqDiff,reduceAdd,za,zb hv.pu,ze _ hv.pu,zb hw.pu,ze _ hw.pu]<;>rfl,by omega,by simp,by omega,zhR (by decide) n,by rw [zhQ];simp [bv],fun m _=>zeT n m⟩
  obtain ⟨r,e1,hr,f1,f2,f3⟩:=fin hn lx hlen hc hlo hval hz;refine ⟨r,_,?_,hr,f1,f2,f3⟩
  simp only [go_sem,reduceEqDiff,Nat.mul_one,za,zb hv.pu,ze _ hv.pu,hv.len,t0,t5,t6,zZ 0 0 (show x.length<n by omega),Nat.zero_add,stU (l:=o) (o:=x.length) (by omega)]
  simp only [go_sem,zoo _ (n:=n) (l:=o.set x.length c) (by simp [hlen]) true,e1,hr.shut,hr.res]
end
end VE
end
