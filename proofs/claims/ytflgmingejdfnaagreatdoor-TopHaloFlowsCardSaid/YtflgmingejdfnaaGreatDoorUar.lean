import Derived.Test.YtflgmingejdfnaaGreatDoorUaq
import Derived.Test.YtflgmingejdfnaaGreatDoorUao
set_option linter.all false
set_option maxRecDepth 100000
open BitVec renaming ofInt→xG,ofInt_natCast→um,ofNat→uk,toNat_ofNat→vm
open Go renaming IntKind→yU
open Int renaming natCast_mul→xS,toNat_natCast→wo
open List renaming drop→xz,drop_eq_getElem_cons→yT,drop_eq_nil_of_le→xh,getD_eq_getElem?_getD→xJ,length_take→yS,map_take→ybh,replicate→yz,take_length→xW,take_of_length_le→yK,take_succ_eq_append_getElem→wz
open Nat renaming add_mul→wZ,add_zero→yZ,beq→yx,ble→yE,ble_eq_true_of_le→yu,blt→yJ,div_add_mod→wC,div_le_self→vQ,div_lt_iff_lt_mul→wH,le_of_lt→tz,le_refl→yB,lt_of_le_of_lt→xR,min_eq_left→xY,mod_eq_of_lt→yP,mod_lt→xD,mul_add→xH,mul_assoc→xn,mul_comm→xQ,mul_div_mul_right→tX,mul_le_mul→xL,mul_le_mul_left→yQ,mul_le_mul_right→y5,mul_lt_mul_of_pos_right→wL,mul_one→yi,mul_zero→xO,pow_add→wJ,pow_succ→xj,reduceAdd→yb,reduceEqDiff→ya,reduceMul→xK,two_pow_pos→wS,zero_add→yd,zero_le→tK
namespace VE
section
open Go (IntKind)
section
variable {P:aI} {L:Lib}
def VU (h:Has P L 302 zp) {v:AV} {l:List Int} (hv:bq v l) (i:Nat):af P L 302 [v,aa i] (aa (l.getD i 0)):=by
 unfold af;rw [aq h];by_cases hi:i<l.length
 ·simp only [go_sem,ya,zp,hv.len,show (i:Int)<l.length by omega,hv.aY hi];simp [xJ,List.getElem?_eq_getElem hi]
 ·simp only [go_sem,ya,zp,hv.len,show ¬(i:Int)<l.length by omega];simp [xJ,List.getElem?_eq_none (Nat.le_of_not_lt hi)]
def ad5 {hp:Hp} {e:Bool} {n:Nat} {cs:List AV} {tm:Env} {h:Nat} {x:X} (hx:de tm n (some x)=some h) (hh:h<=n):
  fT hp (.sl 1) (.aO e n cs) tm none (some x)=some (.aO (e&&yx h n) h (cs.take h)):=by
 simp only [fT,hx,fw];simp [yu hh,slice];rw [show yE 0 h=true from yu (tK _)];rfl
def CF (h:Has P L 300 mI) {v:AV} {l:List Int} (hv:bq v l) (hl:l.length<=20000000000):∃r,af P L 300 [v] r/\bq r (eH l)/\shut r=r:=by
 rcases hv with ⟨rfl,h0⟩ | ⟨e,rfl⟩
 ·have:l=[]:=by simpa using h0
  subst this;refine ⟨.ae,?_,rk,rfl⟩;unfold af;rw [aq h];simp only [go_sem,ya,mI,Ot,DS,av,show ¬(0:Int)<0 by decide]
 ·have key:=cg (P:=P) (L:=L) (live:=[0]) (a:=DS)
   (I:=fun k st=>∃(i:Nat) (e:Bool),st=⟨[(0,.aO e i ((l.take i).map aa))],[],0,0⟩/\i<=l.length/\i=k/\eH (l.take i)=eH l)
   (Q:=fun ex st=>∃tm ct,st=⟨tm,[],ct,0⟩/\ex= .exit 0/\∃i e,ab tm 0= .aO e i ((l.take i).map aa)/\i<=l.length/\l.take i=eH l) ?_
  ·have hlen:(l.map aa).length=l.length:=by simp
   rw [hlen];have jz:∃i e',af P L 300 [.aO e l.length (l.map aa)] (.aO e' i ((l.take i).map aa))/\i<=l.length/\l.take i=eH l:=by
    unfold af;rw [aq h];simp only [go_sem,mI];generalize hq:D P L (.loop [0] DS) _=q;obtain ⟨ex,st,rfl,tm,ct,rfl,rfl,i,e',h2,h3,h4⟩:=bV hq (key l.length) ⟨l.length,e,by simp only [go_sem,ya,av,xW],yB _,rfl,by rw [xW]⟩;simp only [go_sem,av,h2];exact ⟨i,e',rfl,h3,h4⟩
   obtain ⟨i,e',g1,g2,g3⟩:=jz;refine ⟨_,g1,?_,rfl⟩;rw [<-g3]
   have:=fN e' (l.take i)
   rwa [yS,xY g2] at this
  ·rintro k st ⟨i,e,rfl,hi,rfl,ht⟩
   cases i with
   | zero=>
    right
    simp only [go_sem,ya,DS,show ¬(0:Int)<((0:Nat):Int) by omega];exact ⟨_,_,rfl,by simp,_,_,rfl,rfl,0,e,by simp only [go_sem,ya],tK _,by simpa [eH] using ht⟩
   | succ i=>
    have Mg:i<l.length:=by omega
    have eM:l.take (i+1)=l.take i++[l[i]]:=wz Mg;have iO:xz i ((l.take (i+1)).map aa)=[AV.int .i64 l[i]]:=by
     rw [eM,List.map_append,List.drop_left' (by simp;omega)];rfl
    have py:iF 1 i (.aO e (i+1) ((l.take (i+1)).map aa))=some (.bi [AV.int .i64 l[i]]):=by
     rw [Oa e _ (by omega),yi,iO]
    by_cases h0:l[i]=0
    ·left
     have mK:∀tm x,de tm (i+1) (some x)=some i->fT [] (.sl 1) (.aO e (i+1) ((l.take (i+1)).map aa)) tm none (some x)=some (.aO (e&&yx i (i+1)) i ((l.take i).map aa)):=fun tm x hx=>by
      rw [ad5 hx (by omega),<-ybh,List.take_take,xY (by omega)]
     simp only [go_sem,ya,DS,show (0:Int)<((i+1:Nat):Int) by omega,show ((i+1:Nat):Int)-1=(i:Int) by omega,wrapN (n:=i) (by omega),py,h0,mK,eh];refine ⟨_,i,rfl,by omega,i,_,by simp only [go_sem,av]<;>rfl,by omega,rfl,?_⟩
     rw [<-ht,eM,h0,Jd]
    ·right
     simp only [go_sem,ya,DS,show (0:Int)<((i+1:Nat):Int) by omega,show ((i+1:Nat):Int)-1=(i:Int) by omega,wrapN (n:=i) (by omega),py,h0];refine ⟨_,_,rfl,by simp,_,_,rfl,rfl,i+1,e,by simp only [go_sem,ya],by omega,?_⟩;rw [<-ht,eM,Nf h0]
end
end
section
open Go (IntKind)
abbrev uc (n:Nat):AV:= .int .u64 (n:Int)
def bO (v:AV) (l:List Nat):Prop:=dn v (l.map uc)
section
variable {v:AV} {l:List Nat}
def bO.len (h:bO v l) {hp:Hp}:im hp 1 v=some (.int .i64 (l.length:Nat)):=by
 have:=dn.len (hp:=hp) h
 grind
def bO.pu (h:bO v l):aS v=true:=dn.pu h
def bO.ah (h:bO v l) (n:Nat) {hp:Hp}:freeze (n+1) hp v=some (v,hp):=dn.ah h n
def bO.shut (h:bO v l):VE.shut v=v:=dn.shut h
def bO.bN (h:bO v l):VE.bN v=v:=dn.bN h
def bO.dM (h:bO v l) {hp:Hp}:result hp v=some v:=dn.dM h
def bO.one (h:bO v l):bE v=true:=dn.one h
def bO.cells (h:bO v l):cellsOf v=[v]:=dn.cells h
def bO.aY (h:bO v l) {i:Nat} (hi:i<l.length):iF 1 i v=some (.bi (uc (l.getD i 0)::(l.map uc).drop (i+1))):=by
 have:=dn.aY h (i:=i) (by simpa using hi)
 grind
def nS (e:Bool) (l:List Nat):bO (.aO e l.length (l.map uc)) l:=by
 have:=FK e (l.map uc)
 rwa [List.length_map] at this
def Ai:bO .ae []:=rk
end
def lI {hp:Hp} {ct id o:Nat} {v:Nat} {ex:Bool} {l:List Nat} (h:o<l.length):fu hp ct id o 1 [.int .u64 (v:Int)] (some (.cells true true ex 1 (l.map uc)))=some (.aw [],bf hp id (.cells true true ex 1 ((l.set o v).map uc)),ct):=by
 rw [lj (by rfl) (by simp;omega) (by rfl)]
 have:over o [uc v] (l.map uc)=(l.set o v).map uc:=by
  simp only [over,List.length_cons,List.length_nil,yd];rw [List.map_set,List.set_eq_take_append_cons_drop,yF (by simpa using h)]
  simp
 rw [this];rfl
def AM {l:List Nat} {o:Nat} (h:o<l.length):xz o (l.map uc)=uc (l.getD o 0)::xz (o+1) (l.map uc):=by
 rw [yT (by simpa using h)]
 grind
def arR (n:Nat):(yz n [AV.int .u64 0]).flatten=(yz n 0).map uc:=by simp_all
def Et (ct:Nat) {n:Nat} (h:n<=100000000000):AZ ct 1 8 [.int .u64 0] (some n) (some n)=some (.ak ct 0 n,.cells true true true 1 ((yz n 0).map uc)):=by
 rw [Gb (sz:=1) (by omega) (by omega) (by rfl) (by rfl),arR];rfl
def CG (hp:Hp) {n:Nat} {l:List Nat} (h:l.length=n) (ex:Bool):mJ 0 n (some (ex,1,l.map uc,hp))=some (.aO ex n (l.map uc),hp):=my ex (by simp [h]) (by decide)
def ag0 {n:Nat} (h:n<18446744073709551616):IntKind.wrap .u64 (n:Int)=n:=U8 (by omega) (by omega)
section
variable {P:aI} {L:Lib} {f:cT}
def lk {a b:Nat} (h:a<b):yJ a b=true:=by simp_all
def DX (h:L.pure 171=some oH) {x y c:Nat} (hx:x<18446744073709551616) (hy:y<18446744073709551616) (hc:c<=1):
  bY P L f 171 [uc x,uc y,uc c]=some (.aw [uc ((x+y+c)%18446744073709551616),uc ((x+y+c)/18446744073709551616)]):=by
 rw [iP h];show (bif yE c 1&&(yJ x 18446744073709551616&&yJ y 18446744073709551616) then _ else none)=_
 rw [yu hc,lk hx,lk hy];rfl
def UB (h:L.pure 173=some B4) {x y c:Nat} (hx:x<18446744073709551616) (hy:y<18446744073709551616) (hc:c<=1):
  bY P L f 173 [uc x,uc y,uc c]=some (.aw [uc ((x+18446744073709551616*2-y-c)%18446744073709551616),uc (if y+c<=x then 0 else 1)]):=by
 rw [iP h];show (bif yE c 1&&(yJ x 18446744073709551616&&yJ y 18446744073709551616) then _ else none)=_
 rw [yu hc,lk hx,lk hy];by_cases hh:y+c<=x
 ·rw [yu hh,yF hh];rfl
 ·have:yE (y+c) x=false:=by
   cases hq:yE (y+c) x with
   | false=>rfl
   | true=>exact absurd (Nat.le_of_ble_eq_true hq) hh
  grind
def Ow (h:L.pure 143=some oI) {x y:Nat} (hx:x<18446744073709551616) (hy:y<18446744073709551616):
  bY P L f 143 [uc x,uc y]=some (.aw [uc (x*y/18446744073709551616),uc (x*y%18446744073709551616)]):=by
 rw [iP h];show (bif yJ x 18446744073709551616&&yJ y 18446744073709551616 then _ else none)=_
 rw [lk hx,lk hy];rfl
def apu {hp:Hp} {tm:Env} {x:X} (hx:de tm 0 (some x)=some 0):fT hp (.sl 1) .ae tm none (some x)=some .ae:=by
 simp only [fT,hx,fw]
def CH (h:Has P L 166 Cw) {v:AV} {l:List Nat} (hv:bO v l) (hl:l.length<=100000000000):∃r,af P L 166 [v] r/\bO r (eI l):=by
 rcases hv with ⟨rfl,h0⟩ | ⟨e,rfl⟩
 ·have:l=[]:=by simpa using h0
  subst this;refine ⟨.ae,?_,rk⟩;unfold af;rw [aq h];simp only [go_sem,ya,Cw,Ot,DP,av,show ¬(0:Int)<0 by decide,apu,eh]
 ·have key:=cg (P:=P) (L:=L) (live:=[0,3]) (a:=DP)
   (I:=fun k st=>∃(i:Nat),st=⟨[(0,.aO e l.length (l.map uc)),(3,aa i)],[],0,0⟩/\i<=l.length/\i=k/\eI (l.take i)=eI l)
   (Q:=fun ex st=>∃tm ct,st=⟨tm,[],ct,0⟩/\ex= .exit 0/\∃i:Nat,ab tm 0= .aO e l.length (l.map uc)/\ab tm 3=aa i/\i<=l.length/\l.take i=eI l) ?_
  ·have hlen:(l.map uc).length=l.length:=by simp
   rw [hlen];have jz:∃i e',af P L 166 [.aO e l.length (l.map uc)] (.aO e' i ((l.take i).map uc))/\i<=l.length/\l.take i=eI l:=by
    unfold af;rw [aq h];simp only [go_sem,ya,Cw];generalize hq:D P L (.loop [0,3] DP) _=q;obtain ⟨ex,st,rfl,tm,ct,rfl,rfl,i,h2,h3,h4,h5⟩:=bV hq (key l.length) ⟨l.length,by simp only [go_sem,ya,av],yB _,rfl,by rw [xW]⟩;have mK:∀tm x,de tm l.length (some x)=some i->fT [] (.sl 1) (.aO e l.length (l.map uc)) tm none (some x)=some (.aO (e&&yx i l.length) i ((l.map uc).take i)):=fun tm x hx=>ad5 hx h4
    simp only [go_sem,ya,av,h2,h3,mK,eh];exact ⟨i,_,by rw [ybh],h4,h5⟩
   obtain ⟨i,e',g1,g2,g3⟩:=jz;refine ⟨_,g1,?_⟩;rw [<-g3]
   have:=nS e' (l.take i)
   rwa [yS,xY g2] at this
  ·rintro k st ⟨i,rfl,hi,rfl,ht⟩
   cases i with
   | zero=>
    right
    simp only [go_sem,ya,DP,show ¬(0:Int)<((0:Nat):Int) by omega];exact ⟨_,_,rfl,by simp,_,_,rfl,rfl,0,by simp only [go_sem,ya],by simp only [go_sem,ya],tK _,by simpa [eI] using ht⟩
   | succ i=>
    have Mg:i<l.length:=by omega
    have eM:l.take (i+1)=l.take i++[l[i]]:=wz Mg;have py:=(nS e l).aY Mg;rw [<-gd Mg] at py;by_cases h0:l[i]=0
    ·left
     simp only [go_sem,ya,DP,show (0:Int)<((i+1:Nat):Int) by omega,show ((i+1:Nat):Int)-1=(i:Int) by omega,wrapN (n:=i) (by omega),py,show ((l[i]:Nat):Int)=0 by omega];refine ⟨_,i,rfl,by omega,i,by simp only [go_sem,ya,av],by omega,rfl,?_⟩;rw [<-ht,eM,h0,Ng]
    ·right
     simp only [go_sem,ya,DP,show (0:Int)<((i+1:Nat):Int) by omega,show ((i+1:Nat):Int)-1=(i:Int) by omega,wrapN (n:=i) (by omega),py,show ¬((l[i]:Nat):Int)=0 by omega];refine ⟨_,_,rfl,by simp,_,_,rfl,rfl,i+1,by simp only [go_sem,ya],by simp only [go_sem,ya],by omega,?_⟩;rw [<-ht,eM,Fs h0]
end
end
section
open Go (IntKind)
def Ni (p b s:Nat):p*(s%b)+p*b*(s/b)=p*s:=by
 rw [xn,<-xH,Nat.mod_add_div]
def ane {b:Nat} {x y out:List Nat} {i c:Nat} (hi:i<out.length) (hz:out.getD i 0=0) (hv:bv b out+b^i*c=bv b (x.take i)+bv b (y.take i)):
  bv b (out.set i ((x.getD i 0+y.getD i 0+c)%b))+b^(i+1)*((x.getD i 0+y.getD i 0+c)/b)=bv b (x.take (i+1))+bv b (y.take (i+1)):=by
 have h1:=oK (b:=b) (x:=(x.getD i 0+y.getD i 0+c)%b) hi;have h2:=Ni (b^i) b (x.getD i 0+y.getD i 0+c);rw [hz,xO,yZ] at h1;rw [jM,jM,xj,h1]
 grind
def anf {b:Nat} {x y out:List Nat} {i c z c':Nat} (hi:i<out.length) (hz:out.getD i 0=0) (hs:z+y.getD i 0+c=x.getD i 0+b*c') (hv:bv b out+bv b (y.take i)=bv b (x.take i)+b^i*c):
  bv b (out.set i z)+bv b (y.take (i+1))=bv b (x.take (i+1))+b^(i+1)*c':=by
 have h1:=oK (b:=b) (x:=z) hi;rw [hz,xO,yZ] at h1;rw [jM,jM,xj,h1]
 grind
section
variable {P:aI} {L:Lib}
def ahJ (h:Has P L 158 GL) {v w:AV} {x y:List Nat} (hv:bO v x) (hw:bO w y) (hx:lo 18446744073709551616 x) (hy:lo 18446744073709551616 y) (nx:gU x) (ny:gU y) (lx:x.length<=100000000000) (ly:y.length<=100000000000):
  af P L 158 [v,w] (aa (eE (bv 18446744073709551616 x) (bv 18446744073709551616 y))):=by
 unfold af;rw [aq h];by_cases hlen:x.length=y.length
 ·have key:=cg (P:=P) (L:=L) (live:=[0,1,5]) (a:=DO)
   (I:=fun k st=>∃j:Nat,st=⟨[(0,v),(1,w),(5,aa ((j:Int)-1))],[],0,0⟩/\j<=x.length/\j=k/\x.drop j=y.drop j)
   (Q:=fun ex st=>∃tm ct,st=⟨tm,[],ct,0⟩/\((ex= .ret/\ab tm 4=aa (eE (bv 18446744073709551616 x) (bv 18446744073709551616 y)))\/(ex= .exit 0/\x=y))) ?_
  ·simp only [go_sem,ya,GL,hv.len,hw.len,show (x.length:Int)=y.length by omega];generalize hq:D P L (.loop [0,1,5] DO) _=q;obtain ⟨ex,st,rfl,tm,ct,rfl,h2⟩:=bV hq (key x.length) ⟨x.length,by
    rw [wrap64 (by omega) (by omega),hlen]
    simp only [go_sem,ya,av,az hv.pu,aE _ hv.pu,az hw.pu,aE _ hw.pu]<;>rfl,yB _,rfl,by rw [xh (yB _),xh (by omega)]⟩
   rcases h2 with ⟨rfl,h2⟩ | ⟨rfl,h2⟩
   ·simp only [go_sem,h2]
   ·simp only [go_sem,av];subst h2;simp [eE]
  ·rintro k st ⟨j,rfl,hj,rfl,he⟩
   cases j with
   | zero=>
    right
    simp only [go_sem,ya,DO,show ¬(0:Int)<=((0:Nat):Int)-1 by omega];exact ⟨_,_,rfl,by simp,_,_,rfl,.inr ⟨rfl,by simpa using he⟩⟩
   | succ i=>
    have h1:i<x.length:=by omega
    have h2:i<y.length:=by omega
    have Hl:=adY hx h1 h2 he;have bm:=adY hy h2 h1 he.symm;by_cases c0:x.getD i 0=y.getD i 0
    ·left
     simp only [go_sem,ya,DO,show ((i+1:Nat):Int)-1=(i:Int) by omega,show (0:Int)<=(i:Int) by omega,hv.aY h1,hw.aY h2,c0];refine ⟨_,i,rfl,by omega,i,?_,by omega,rfl,?_⟩
     ·rw [wrap64 (by omega) (by omega)];simp only [go_sem,ya,av,az hv.pu,aE _ hv.pu,az hw.pu,aE _ hw.pu]<;>rfl
     ·rw [yT h1,yT h2,he,gd h1,gd h2,c0]
    ·by_cases c1:x.getD i 0<y.getD i 0
     ·right
      simp only [go_sem,ya,DO,show ((i+1:Nat):Int)-1=(i:Int) by omega,show (0:Int)<=(i:Int) by omega,hv.aY h1,hw.aY h2,show ¬((x.getD i 0:Nat):Int)=(y.getD i 0:Nat) by omega,show ((x.getD i 0:Nat):Int)<(y.getD i 0:Nat) by omega];refine ⟨_,_,rfl,by simp,_,_,rfl,.inl ⟨rfl,?_⟩⟩;simp only [go_sem];unfold eE;rw [yF (Hl c1)]
     ·right
      simp only [go_sem,ya,DO,show ((i+1:Nat):Int)-1=(i:Int) by omega,show (0:Int)<=(i:Int) by omega,hv.aY h1,hw.aY h2,show ¬((x.getD i 0:Nat):Int)=(y.getD i 0:Nat) by omega,show ¬((x.getD i 0:Nat):Int)<(y.getD i 0:Nat) by omega];refine ⟨_,_,rfl,by simp,_,_,rfl,.inl ⟨rfl,?_⟩⟩;simp only [go_sem];unfold eE;rw [yr (by omega),yF (by omega)]
 ·by_cases c1:x.length<y.length
  ·have:=N8 (b:=18446744073709551616) (by decide) hx ny c1
   simp only [go_sem,ya,GL,hv.len,hw.len,show ¬(x.length:Int)=y.length by omega,show (x.length:Int)<y.length by omega];unfold eE;rw [yF this]
  ·have:=N8 (b:=18446744073709551616) (by decide) hy nx (show y.length<x.length by omega)
   simp only [go_sem,ya,GL,hv.len,hw.len,show ¬(x.length:Int)=y.length by omega,show ¬(x.length:Int)<y.length by omega];unfold eE;rw [yr (by omega),yF this]
def afM (ib:L.pure 171=some oH) {v w:AV} {x y:List Nat} (hv:bO v x) (hw:bO w y) (hx:lo 18446744073709551616 x) (hy:lo 18446744073709551616 y) (lx:x.length<=99999999999) (ly:y.length<=x.length) {n:Nat} (hn:n=x.length+1):
  ∀k s,(∃(i c:Nat) (out:List Nat),bA [0,1,5,6,21,22] s=⟨[(0,v),(1,w),(5,.ak 0 0 n),(6,uc c),(21,aa x.length),(22,aa i)],[(0,.cells true true true 1 (out.map uc))],1,0⟩/\i+k=x.length/\out.length=n/\c<=1/\lo 18446744073709551616 out/\
    bv 18446744073709551616 out+18446744073709551616^i*c=bv 18446744073709551616 (x.take i)+bv 18446744073709551616 (y.take i)/\(∀m,i<=m->out.getD m 0=0))->
   ∃ex s',D P L (.loop [0,1,5,6,21,22] DN) s=some (ex,s')/\∃tm c out,s'=⟨tm,[(0,.cells true true true 1 (out.map uc))],1,0⟩/\ex= .exit 0/\ab tm 0=v/\ab tm 5= .ak 0 0 n/\ab tm 6=uc c/\out.length=n/\c<=1/\lo 18446744073709551616 out/\
    bv 18446744073709551616 out+18446744073709551616^x.length*c=bv 18446744073709551616 x+bv 18446744073709551616 y/\out.getD x.length 0=0:=by
 refine cg (I:=fun k s=>∃(i c:Nat) (out:List Nat),s=⟨[(0,v),(1,w),(5,.ak 0 0 n),(6,uc c),(21,aa x.length),(22,aa i)],[(0,.cells true true true 1 (out.map uc))],1,0⟩/\i+k=x.length/\out.length=n/\c<=1/\lo 18446744073709551616 out/\
    bv 18446744073709551616 out+18446744073709551616^i*c=bv 18446744073709551616 (x.take i)+bv 18446744073709551616 (y.take i)/\(∀m,i<=m->out.getD m 0=0))
  (Q:=fun ex s'=>∃tm c out,s'=⟨tm,[(0,.cells true true true 1 (out.map uc))],1,0⟩/\ex= .exit 0/\ab tm 0=v/\ab tm 5= .ak 0 0 n/\ab tm 6=uc c/\out.length=n/\c<=1/\lo 18446744073709551616 out/\
    bv 18446744073709551616 out+18446744073709551616^x.length*c=bv 18446744073709551616 x+bv 18446744073709551616 y/\out.getD x.length 0=0) ?_
 rintro k s ⟨i,c,out,rfl,hk,hlen,hc,bt,aR,gW⟩;by_cases hi:i<x.length
 ·left
  have hz:=gW i (yB _);have lW:=ane (x:=x) (y:=y) (show i<out.length by omega) hz aR;have gx:=gY (show 0<18446744073709551616 by decide) hx i;have gy:=gY (show 0<18446744073709551616 by decide) hy i;have e1:=DX (P:=P) (f:=D P L) ib gx gy hc;have ex:=hv.aY hi;generalize x.getD i 0=p at*
  by_cases hj:i<y.length
  ·have ey:=hw.aY hj;generalize y.getD i 0=q at*
   simp only [go_sem,ya,yi,DN,hw.len,show (i:Int)<x.length by omega,show (i:Int)<y.length by omega,ex,ey,e1,dH 0 0 (show i<n by omega),yd,lI (l:=out) (o:=i) (by omega)]
   refine ⟨_,k-1,rfl,by omega,i+1,(p+q+c)/18446744073709551616,_,?_,by omega,by simp [hlen],by omega,nh bt (x:=(p+q+c)%18446744073709551616) (i:=i) (by omega),lW,fun m hm=>?_⟩
   ·rw [wrap64 (by omega) (by omega)];simp only [go_sem,ya,yb,av,az hv.pu,aE _ hv.pu,az hw.pu,aE _ hw.pu]<;>rfl
   ·rw [pN (by omega)];exact gW m (by omega)
  ·have jk:y.getD i 0=0:=Ut (by omega);rw [jk] at lW e1;rw [show (uc 0)=AV.int .u64 0 from rfl] at e1
   simp only [go_sem,ya,yi,DN,hw.len,show (i:Int)<x.length by omega,show ¬(i:Int)<y.length by omega,ex,e1,dH 0 0 (show i<n by omega),yd,lI (l:=out) (o:=i) (by omega)]
   refine ⟨_,k-1,rfl,by omega,i+1,(p+0+c)/18446744073709551616,_,?_,by omega,by simp [hlen],by omega,nh bt (x:=(p+0+c)%18446744073709551616) (i:=i) (by omega),lW,fun m hm=>?_⟩
   ·rw [wrap64 (by omega) (by omega)];simp only [go_sem,ya,yb,av,az hv.pu,aE _ hv.pu,az hw.pu,aE _ hw.pu]<;>rfl
   ·rw [pN (by omega)];exact gW m (by omega)
 ·right
  have:i=x.length:=by omega
  subst this;rw [xW,yK ly] at aR;simp only [go_sem,ya,DN,show ¬(x.length:Int)<x.length by omega];exact ⟨_,_,rfl,by simp,_,c,out,rfl,rfl,by simp only [go_sem,ya],by simp only [go_sem,ya],by simp only [go_sem,ya],hlen,hc,bt,aR,gW _ (yB _)⟩
def axD (h:Has P L 157 KL) (nC:Has P L 166 Cw) (ib:L.pure 171=some oH) {v w:AV} {x y:List Nat} (hv:bO v x) (hw:bO w y) (hx:lo 18446744073709551616 x) (hy:lo 18446744073709551616 y) (lx:x.length<=99999999999) (ly:y.length<=99999999999):
  ∃r out,af P L 157 [v,w] r/\bO r out/\lo 18446744073709551616 out/\gU out/\bv 18446744073709551616 out=bv 18446744073709551616 x+bv 18446744073709551616 y:=by
 have fin:∀{x y o:List Nat} {n c:Nat},n=x.length+1->x.length<=99999999999->o.length=n->c<=1->lo 18446744073709551616 o->bv 18446744073709551616 o+18446744073709551616^x.length*c=bv 18446744073709551616 x+bv 18446744073709551616 y->o.getD x.length 0=0->
   ∃r,bY P L (D P L) 166 [.aO true n ((o.set x.length c).map uc)]=some r/\bO r (eI (o.set x.length c))/\lo 18446744073709551616 (eI (o.set x.length c))/\gU (eI (o.set x.length c))/\bv 18446744073709551616 (eI (o.set x.length c))=bv 18446744073709551616 x+bv 18446744073709551616 y:=by
  intro x y o n c hn lx hlen hc bt aR hz;have bf:=oK (b:=18446744073709551616) (l:=o) (i:=x.length) (x:=c) (by omega);rw [hz,xO,yZ,aR] at bf;have axE:lo 18446744073709551616 (o.set x.length c):=nh bt (by omega);have hf:=nS true (o.set x.length c);rw [List.length_set,hlen] at hf;obtain ⟨r,e1,hr⟩:=CH nC hf (by simp;omega);exact ⟨r,e1,hr,BW axE,BV _,by rw [BU];exact bf⟩
 by_cases hl:x.length<y.length
 ·obtain ⟨n,hn⟩:∃n,n=y.length+1:=⟨_,rfl⟩;unfold af;rw [aq h]
  simp only [go_sem,ya,yb,KL,hv.len,hw.len,show (x.length:Int)<y.length by omega,wrapN (n:=n) (by omega),show (y.length:Int)+1=((y.length+1:Nat):Int) from rfl,<-hn,Et (n:=n) _ (by omega)];generalize hq:D P L (.loop [0,1,5,6,21,22] DN) _=q;obtain ⟨ex,s,rfl,tm,c,o,rfl,rfl,t0,t5,t6,hlen,hc,bt,aR,hz⟩:=bV hq (afM (P:=P) (L:=L) ib hw hv hy hx ly (by omega) hn y.length)
   ⟨0,0,yz n 0,by simp only [go_sem,ya,yb,av,az hv.pu,aE _ hv.pu,az hw.pu,aE _ hw.pu]<;>rfl,by omega,by simp,by omega,F7 (by decide) n,by rw [F9];simp [bv],fun m _=>DH n m⟩
  obtain ⟨r,e1,hr,f1,f2,f3⟩:=fin hn ly hlen hc bt aR hz;refine ⟨r,_,?_,hr,f1,f2,by rw [f3];omega⟩
  simp only [go_sem,ya,yi,av,az hw.pu,aE _ hw.pu,hw.len,t0,t5,t6,dH 0 0 (show y.length<n by omega),yd,lI (l:=o) (o:=y.length) (by omega)]
  simp only [go_sem,CG _ (n:=n) (l:=o.set y.length c) (by simp [hlen]) true,e1,hr.shut,hr.dM]
 ·obtain ⟨n,hn⟩:∃n,n=x.length+1:=⟨_,rfl⟩;unfold af;rw [aq h]
  simp only [go_sem,ya,yb,KL,hv.len,hw.len,show ¬(x.length:Int)<y.length by omega,wrapN (n:=n) (by omega),show (x.length:Int)+1=((x.length+1:Nat):Int) from rfl,<-hn,Et (n:=n) _ (by omega)];generalize hq:D P L (.loop [0,1,5,6,21,22] DN) _=q;obtain ⟨ex,s,rfl,tm,c,o,rfl,rfl,t0,t5,t6,hlen,hc,bt,aR,hz⟩:=bV hq (afM (P:=P) (L:=L) ib hv hw hx hy lx (by omega) hn x.length)
   ⟨0,0,yz n 0,by simp only [go_sem,ya,yb,av,az hv.pu,aE _ hv.pu,az hw.pu,aE _ hw.pu]<;>rfl,by omega,by simp,by omega,F7 (by decide) n,by rw [F9];simp [bv],fun m _=>DH n m⟩
  obtain ⟨r,e1,hr,f1,f2,f3⟩:=fin hn lx hlen hc bt aR hz;refine ⟨r,_,?_,hr,f1,f2,f3⟩
  simp only [go_sem,ya,yi,av,az hv.pu,aE _ hv.pu,hv.len,t0,t5,t6,dH 0 0 (show x.length<n by omega),yd,lI (l:=o) (o:=x.length) (by omega)]
  simp only [go_sem,CG _ (n:=n) (l:=o.set x.length c) (by simp [hlen]) true,e1,hr.shut,hr.dM]
end
end
section
open Go (IntKind)
def ang {b:Nat} {out:List Nat} {p j c t o x y Y bo ba:Nat} (ho:o=out.getD j 0) (hj:j<out.length) (ht:t=o+x*y+c) (hv:bo+p*c=ba+p*(x*Y)) (hb:bo=bv b out) (hp:p=b^j):
  bv b (out.set j (t%b))+p*b*(t/b)=ba+p*(x*(Y+0))+p*(x*y):=by
 have h1:=oK (b:=b) (x:=t%b) hj;have h2:=Ni p b t
 grind
section
variable {P:aI} {L:Lib}
def Tl {x y c:Nat} (hx:x<18446744073709551616) (hy:y<18446744073709551616) (hc:c<=1):
  (x+18446744073709551616*2-y-c)%18446744073709551616+y+c=x+18446744073709551616*(if y+c<=x then 0 else 1):=by grind
def aur (zt:L.pure 173=some B4) {v w:AV} {x y:List Nat} (hv:bO v x) (hw:bO w y) (hx:lo 18446744073709551616 x) (hy:lo 18446744073709551616 y) (lx:x.length<=99999999999) (ly:y.length<=x.length) (hle:bv 18446744073709551616 y<=bv 18446744073709551616 x) {n:Nat} (hn:n=x.length):
  ∀k s,(∃(i c:Nat) (out:List Nat),bA [0,1,5,6,13,14] s=⟨[(0,v),(1,w),(5,.ak 0 0 n),(6,uc c),(13,aa x.length),(14,aa i)],[(0,.cells true true true 1 (out.map uc))],1,0⟩/\i+k=x.length/\out.length=n/\c<=1/\lo 18446744073709551616 out/\
    bv 18446744073709551616 out+bv 18446744073709551616 (y.take i)=bv 18446744073709551616 (x.take i)+18446744073709551616^i*c/\(∀m,i<=m->out.getD m 0=0))->
   ∃ex s',D P L (.loop [0,1,5,6,13,14] FV) s=some (ex,s')/\∃tm out,s'=⟨tm,[(0,.cells true true true 1 (out.map uc))],1,0⟩/\ex= .exit 0/\ab tm 5= .ak 0 0 n/\out.length=n/\lo 18446744073709551616 out/\
    bv 18446744073709551616 out+bv 18446744073709551616 y=bv 18446744073709551616 x:=by
 refine cg (I:=fun k s=>∃(i c:Nat) (out:List Nat),s=⟨[(0,v),(1,w),(5,.ak 0 0 n),(6,uc c),(13,aa x.length),(14,aa i)],[(0,.cells true true true 1 (out.map uc))],1,0⟩/\i+k=x.length/\out.length=n/\c<=1/\lo 18446744073709551616 out/\
    bv 18446744073709551616 out+bv 18446744073709551616 (y.take i)=bv 18446744073709551616 (x.take i)+18446744073709551616^i*c/\(∀m,i<=m->out.getD m 0=0))
  (Q:=fun ex s'=>∃tm out,s'=⟨tm,[(0,.cells true true true 1 (out.map uc))],1,0⟩/\ex= .exit 0/\ab tm 5= .ak 0 0 n/\out.length=n/\lo 18446744073709551616 out/\
    bv 18446744073709551616 out+bv 18446744073709551616 y=bv 18446744073709551616 x) ?_
 rintro k s ⟨i,c,out,rfl,hk,hlen,hc,bt,aR,gW⟩;by_cases hi:i<x.length
 ·left
  have hz:=gW i (yB _);have gx:=gY (show 0<18446744073709551616 by decide) hx i;have gy:=gY (show 0<18446744073709551616 by decide) hy i;have zX:=Tl gx gy hc;have lW:=anf (x:=x) (y:=y) (show i<out.length by omega) hz zX aR;have e1:=UB (P:=P) (f:=D P L) zt gx gy hc;have ex:=hv.aY hi;generalize x.getD i 0=p at*
  have oz:(if y.getD i 0+c<=p then 0 else 1)<=1:=by split<;>omega
  by_cases hj:i<y.length
  ·have ey:=hw.aY hj;generalize y.getD i 0=q at*
   generalize (if q+c<=p then 0 else 1)=c1 at*
   simp only [go_sem,ya,xK,yi,FV,hw.len,show (i:Int)<x.length by omega,show (i:Int)<y.length by omega,ex,ey,e1,dH 0 0 (show i<n by omega),yd,lI (l:=out) (o:=i) (by omega)]
   refine ⟨_,k-1,rfl,by omega,i+1,c1,_,?_,by omega,by simp [hlen],oz,nh bt (x:=(p+18446744073709551616*2-q-c)%18446744073709551616) (i:=i) (by omega),lW,fun m hm=>?_⟩
   ·rw [wrap64 (by omega) (by omega)];simp only [go_sem,ya,yb,xK,av,az hv.pu,aE _ hv.pu,az hw.pu,aE _ hw.pu]<;>rfl
   ·rw [pN (by omega)];exact gW m (by omega)
  ·have jk:y.getD i 0=0:=Ut (by omega);rw [jk] at lW e1 oz;rw [show (uc 0)=AV.int .u64 0 from rfl] at e1;generalize (if 0+c<=p then 0 else 1)=c1 at*
   simp only [go_sem,ya,xK,yi,FV,hw.len,show (i:Int)<x.length by omega,show ¬(i:Int)<y.length by omega,ex,e1,dH 0 0 (show i<n by omega),yd,lI (l:=out) (o:=i) (by omega)]
   refine ⟨_,k-1,rfl,by omega,i+1,c1,_,?_,by omega,by simp [hlen],oz,nh bt (x:=(p+18446744073709551616*2-0-c)%18446744073709551616) (i:=i) (by omega),lW,fun m hm=>?_⟩
   ·rw [wrap64 (by omega) (by omega)];simp only [go_sem,ya,yb,xK,av,az hv.pu,aE _ hv.pu,az hw.pu,aE _ hw.pu]<;>rfl
   ·rw [pN (by omega)];exact gW m (by omega)
 ·right
  have:i=x.length:=by omega
  subst this;rw [xW,yK ly] at aR;have bm:=nm bt;rw [hlen,hn] at bm;simp only [go_sem,ya,FV,show ¬(x.length:Int)<x.length by omega];refine ⟨_,_,rfl,by simp,_,out,rfl,rfl,by simp only [go_sem,ya],hlen,bt,?_⟩;rcases (show c=0\/c=1 by omega) with rfl | rfl
  ·omega
  ·omega
def ahK (h:Has P L 159 PF) (nC:Has P L 166 Cw) (zt:L.pure 173=some B4) {v w:AV} {x y:List Nat} (hv:bO v x) (hw:bO w y) (hx:lo 18446744073709551616 x) (hy:lo 18446744073709551616 y) (ny:gU y) (lx:x.length<=99999999999) (hle:bv 18446744073709551616 y<=bv 18446744073709551616 x):
  ∃r out,af P L 159 [v,w] r/\bO r out/\lo 18446744073709551616 out/\gU out/\bv 18446744073709551616 out+bv 18446744073709551616 y=bv 18446744073709551616 x:=by
 have ly:y.length<=x.length:=by
  by_cases hh:x.length<y.length
  ·have:=N8 (b:=18446744073709551616) (by decide) hx ny hh
   omega
  ·omega
 obtain ⟨n,hn⟩:∃n,n=x.length:=⟨_,rfl⟩;unfold af;rw [aq h]
 simp only [go_sem,ya,yb,PF,hv.len,<-hn,Et (n:=n) _ (by omega)];generalize hq:D P L (.loop [0,1,5,6,13,14] FV) _=q;obtain ⟨ex,s,rfl,tm,o,rfl,rfl,t5,hlen,bt,aR⟩:=bV hq (aur (P:=P) (L:=L) zt hv hw hx hy lx ly hle hn x.length)
  ⟨0,0,yz n 0,by rw [hn];simp only [go_sem,ya,yb,av,az hv.pu,aE _ hv.pu,az hw.pu,aE _ hw.pu]<;>rfl,by omega,by simp,by omega,F7 (by decide) n,by rw [F9];simp [bv],fun m _=>DH n m⟩
 have hf:=nS true o;rw [hlen] at hf;obtain ⟨r,e1,hr⟩:=CH nC hf (by omega);refine ⟨r,_,?_,hr,BW bt,BV _,by rw [BU];exact aR⟩
 simp only [go_sem,yb,av,t5,CG _ (n:=n) (l:=o) hlen true,e1,hr.shut,hr.dM]
def apv {x y o c:Nat} (hx:x<18446744073709551616) (hy:y<18446744073709551616) (ho:o<18446744073709551616) (hc:c<18446744073709551616):
  o+x*y+c<18446744073709551616*18446744073709551616/\
  ((x*y%18446744073709551616+o+0)%18446744073709551616+c+0)%18446744073709551616=(o+x*y+c)%18446744073709551616/\
  x*y/18446744073709551616+(x*y%18446744073709551616+o+0)/18446744073709551616+((x*y%18446744073709551616+o+0)%18446744073709551616+c+0)/18446744073709551616=(o+x*y+c)/18446744073709551616:=by
 have h1:=xL (show x<=18446744073709551615 by omega) (show y<=18446744073709551615 by omega)
 grind
def aus (me:L.pure 143=some oI) (ib:L.pure 171=some oH) {v w:AV} {x y:List Nat} (hv:bO v x) (hw:bO w y) (hx:lo 18446744073709551616 x) (hy:lo 18446744073709551616 y) (lx:x.length<=49999999999) (ly:y.length<=49999999999) {n i:Nat} (hn:n=x.length+y.length) (hi:i<x.length) {a:Nat} (ha:a<18446744073709551616) {bo:Nat}:
  ∀k s,(∃(j c:Nat) (out:List Nat),bA [1,5,6,7,8,20,21,22,27,28,29] s=⟨[(1,w),(5,.ak 0 0 n),(6,aa i),(7,uc a),(8,uc c),(20,v),(21,aa x.length),(22,aa i),(27,w),(28,aa y.length),(29,aa j)],[(0,.cells true true true 1 (out.map uc))],1,0⟩/\j+k=y.length/\out.length=n/\c<18446744073709551616/\lo 18446744073709551616 out/\
    bv 18446744073709551616 out+18446744073709551616^(i+j)*c=bo+18446744073709551616^i*(a*bv 18446744073709551616 (y.take j))/\(∀m,i+y.length<=m->out.getD m 0=0))->
   ∃ex s',D P L (.loop [1,5,6,7,8,20,21,22,27,28,29] JX) s=some (ex,s')/\∃tm c out,s'=⟨tm,[(0,.cells true true true 1 (out.map uc))],1,0⟩/\ex= .exit 2/\ab tm 1=w/\ab tm 5= .ak 0 0 n/\ab tm 6=aa i/\ab tm 8=uc c/\ab tm 20=v/\ab tm 21=aa x.length/\ab tm 22=aa i/\out.length=n/\c<18446744073709551616/\lo 18446744073709551616 out/\
    bv 18446744073709551616 out+18446744073709551616^(i+y.length)*c=bo+18446744073709551616^i*(a*bv 18446744073709551616 y)/\(∀m,i+y.length<=m->out.getD m 0=0):=by
 refine cg (I:=fun k s=>∃(j c:Nat) (out:List Nat),s=⟨[(1,w),(5,.ak 0 0 n),(6,aa i),(7,uc a),(8,uc c),(20,v),(21,aa x.length),(22,aa i),(27,w),(28,aa y.length),(29,aa j)],[(0,.cells true true true 1 (out.map uc))],1,0⟩/\j+k=y.length/\out.length=n/\c<18446744073709551616/\lo 18446744073709551616 out/\
    bv 18446744073709551616 out+18446744073709551616^(i+j)*c=bo+18446744073709551616^i*(a*bv 18446744073709551616 (y.take j))/\(∀m,i+y.length<=m->out.getD m 0=0))
  (Q:=fun ex s'=>∃tm c out,s'=⟨tm,[(0,.cells true true true 1 (out.map uc))],1,0⟩/\ex= .exit 2/\ab tm 1=w/\ab tm 5= .ak 0 0 n/\ab tm 6=aa i/\ab tm 8=uc c/\ab tm 20=v/\ab tm 21=aa x.length/\ab tm 22=aa i/\out.length=n/\c<18446744073709551616/\lo 18446744073709551616 out/\
    bv 18446744073709551616 out+18446744073709551616^(i+y.length)*c=bo+18446744073709551616^i*(a*bv 18446744073709551616 y)/\(∀m,i+y.length<=m->out.getD m 0=0)) ?_
 rintro k s ⟨j,c,out,rfl,hk,hlen,hc,bt,aR,gW⟩;by_cases hj:j<y.length
 ·left
  have C4:(0:Nat)<18446744073709551616:=by decide
  have gy:=gY C4 hy j;have oA:=gY C4 bt (i+j);have ey:=hw.aY hj;have e3:=AM (l:=out) (o:=i+j) (by omega);obtain ⟨q,hq⟩:∃q,q=y.getD j 0:=⟨_,rfl⟩;obtain ⟨o,ho⟩:∃o,o=out.getD (i+j) 0:=⟨_,rfl⟩;rw [<-hq] at gy ey;rw [<-ho] at oA e3;obtain ⟨m1,m2,m3⟩:=apv ha gy oA hc;have hpy:a*q<18446744073709551616*18446744073709551616:=by omega
  have f1:=Ow (P:=P) (f:=D P L) me ha gy;have f2:=DX (P:=P) (f:=D P L) ib (x:=a*q%18446744073709551616) (y:=o) (c:=0) (xD _ C4) oA (by omega);have f3:=DX (P:=P) (f:=D P L) ib (x:=(a*q%18446744073709551616+o+0)%18446744073709551616) (y:=c) (c:=0) (xD _ C4) hc (by omega);obtain ⟨t,ht⟩:∃t,t=o+a*q+c:=⟨_,rfl⟩;have lW:=ang (b:=18446744073709551616) (out:=out) (p:=18446744073709551616^(i+j)) (j:=i+j) (c:=c) (t:=t) (x:=a) (y:=q) (Y:=0) (ba:=bo+18446744073709551616^i*(a*bv 18446744073709551616 (y.take j))) ho (by omega) ht (by simpa using aR) rfl rfl;rw [m2,<-ht] at f3;rw [<-ht] at m1 m3;obtain ⟨d1,jW⟩:∃d,d=(a*q%18446744073709551616+o+0)/18446744073709551616:=⟨_,rfl⟩;obtain ⟨d2,et⟩:∃d,d=((a*q%18446744073709551616+o+0)%18446744073709551616+c+0)/18446744073709551616:=⟨_,rfl⟩;rw [<-jW] at f2 m3;rw [<-et] at f3 m3
  rw [show (uc 0)=AV.int .u64 0 from rfl] at f2 f3;obtain ⟨h1,jD⟩:∃d,d=a*q/18446744073709551616:=⟨_,rfl⟩;rw [<-jD] at f1 m3;have oh:h1+d1<18446744073709551616:=by omega
  have qP:h1+d1+d2<18446744073709551616:=by omega
  simp only [go_sem,ya,yi,JX,show (j:Int)<y.length by omega,ey,f1,wrapN (n:=i+j) (by omega),show (i:Int)+(j:Int)=((i+j:Nat):Int) from rfl,dH 0 0 (show i+j<n by omega),yd,e3,f2,f3,show (h1:Int)+(d1:Int)=((h1+d1:Nat):Int) from rfl,ag0 oh,show ((h1+d1:Nat):Int)+(d2:Int)=((h1+d1+d2:Nat):Int) from rfl,ag0 qP,lI (l:=out) (o:=i+j) (by omega)]
  refine ⟨_,k-1,rfl,by omega,j+1,h1+d1+d2,_,?_,by omega,by simp [hlen],qP,nh bt (x:=t%18446744073709551616) (i:=i+j) (xD _ C4),?_,fun m hm=>?_⟩
  ·rw [wrap64 (by omega) (by omega)];simp only [go_sem,ya,yb,av,az hv.pu,aE _ hv.pu,az hw.pu,aE _ hw.pu]<;>rfl
  ·rw [m3,show i+(j+1)=i+j+1 by omega,xj,jM,<-hq,xH a,xH (18446744073709551616^i)];simp only [xO,yZ] at lW;rw [lW,wJ,<-Nat.add_assoc,xn (18446744073709551616^i),<-xn a,xQ a (18446744073709551616^j),xn]
  ·rw [pN (by omega)];exact gW m hm
 ·right
  have:j=y.length:=by omega
  subst this;rw [xW] at aR;simp only [go_sem,ya,JX,show ¬(y.length:Int)<y.length by omega];exact ⟨_,_,rfl,by simp,_,c,out,rfl,rfl,by simp only [go_sem,ya],by simp only [go_sem,ya],by simp only [go_sem,ya],by simp only [go_sem,ya],by simp only [go_sem,ya],by simp only [go_sem,ya],by simp only [go_sem,ya],hlen,hc,bt,aR,gW⟩
def aut (me:L.pure 143=some oI) (ib:L.pure 171=some oH) {v w:AV} {x y:List Nat} (hv:bO v x) (hw:bO w y) (hx:lo 18446744073709551616 x) (hy:lo 18446744073709551616 y) (lx:x.length<=49999999999) (ly:y.length<=49999999999) {n:Nat} (hn:n=x.length+y.length):
  ∀k s,(∃(i:Nat) (out:List Nat),bA [1,5,20,21,22] s=⟨[(1,w),(5,.ak 0 0 n),(20,v),(21,aa x.length),(22,aa i)],[(0,.cells true true true 1 (out.map uc))],1,0⟩/\i+k=x.length/\out.length=n/\lo 18446744073709551616 out/\
    bv 18446744073709551616 out=bv 18446744073709551616 (x.take i)*bv 18446744073709551616 y/\(∀m,i+y.length<=m->out.getD m 0=0))->
   ∃ex s',D P L (.loop [1,5,20,21,22] JY) s=some (ex,s')/\∃tm out,s'=⟨tm,[(0,.cells true true true 1 (out.map uc))],1,0⟩/\ex= .exit 0/\ab tm 5= .ak 0 0 n/\out.length=n/\lo 18446744073709551616 out/\
    bv 18446744073709551616 out=bv 18446744073709551616 x*bv 18446744073709551616 y:=by
 refine cg (I:=fun k s=>∃(i:Nat) (out:List Nat),s=⟨[(1,w),(5,.ak 0 0 n),(20,v),(21,aa x.length),(22,aa i)],[(0,.cells true true true 1 (out.map uc))],1,0⟩/\i+k=x.length/\out.length=n/\lo 18446744073709551616 out/\
    bv 18446744073709551616 out=bv 18446744073709551616 (x.take i)*bv 18446744073709551616 y/\(∀m,i+y.length<=m->out.getD m 0=0))
  (Q:=fun ex s'=>∃tm out,s'=⟨tm,[(0,.cells true true true 1 (out.map uc))],1,0⟩/\ex= .exit 0/\ab tm 5= .ak 0 0 n/\out.length=n/\lo 18446744073709551616 out/\
    bv 18446744073709551616 out=bv 18446744073709551616 x*bv 18446744073709551616 y) ?_
 rintro k s ⟨i,out,rfl,hk,hlen,bt,aR,gW⟩;by_cases hi:i<x.length
 ·left
  have gx:=gY (show 0<18446744073709551616 by decide) hx i;have ex:=hv.aY hi;obtain ⟨a,ha⟩:∃a,a=x.getD i 0:=⟨_,rfl⟩;simp only [go_sem,ya,JY,hw.len,show (i:Int)<x.length by omega,ex];generalize hq:D P L (.loop [1,5,6,7,8,20,21,22,27,28,29] JX) _=q;obtain ⟨ex,s,rfl,tm,c,zu,rfl,rfl,t1,t5,t6,t8,t20,t21,t22,D7,hc,axF,U9,La⟩:=bV hq (aus (P:=P) (L:=L) me ib hv hw hx hy lx ly hn hi gx (bo:=bv 18446744073709551616 out) y.length)
   ⟨0,0,out,by simp only [go_sem,ya,yb,av,az hv.pu,aE _ hv.pu,az hw.pu,aE _ hw.pu]<;>rfl,by omega,hlen,by decide,bt,by simp [bv],gW⟩
  have hz:zu.getD (i+y.length) 0=0:=La _ (yB _);have bf:=oK (b:=18446744073709551616) (l:=zu) (i:=i+y.length) (x:=c) (by omega);rw [hz,xO,yZ,U9] at bf
  simp only [go_sem,ya,yi,av,t1,t5,t6,t8,t20,t21,t22,hw.len,az hv.pu,aE _ hv.pu,az hw.pu,aE _ hw.pu,wrapN (n:=i+y.length) (by omega),show (i:Int)+(y.length:Int)=((i+y.length:Nat):Int) from rfl,dH 0 0 (show i+y.length<n by omega),yd,lI (l:=zu) (o:=i+y.length) (by omega)];refine ⟨_,k-1,rfl,by omega,i+1,zu.set (i+y.length) c,?_,by omega,by simp [D7],nh axF hc,?_,fun m hm=>?_⟩
  ·rw [wrap64 (by omega) (by omega)];simp only [go_sem,ya,yb,av,az hv.pu,aE _ hv.pu,az hw.pu,aE _ hw.pu]<;>rfl
  ·rw [bf,aR,jM,wZ,<-ha,xn]
  ·rw [pN (by omega)];exact La m (by omega)
 ·right
  have:i=x.length:=by omega
  subst this;rw [xW] at aR;simp only [go_sem,ya,JY,show ¬(x.length:Int)<x.length by omega];exact ⟨_,_,rfl,by simp,_,out,rfl,rfl,by simp only [go_sem,ya],hlen,bt,aR⟩
def axG (h:Has P L 144 PC) (nC:Has P L 166 Cw) (me:L.pure 143=some oI) (ib:L.pure 171=some oH) {v w:AV} {x y:List Nat} (hv:bO v x) (hw:bO w y) (hx:lo 18446744073709551616 x) (hy:lo 18446744073709551616 y) (lx:x.length<=49999999999) (ly:y.length<=49999999999):
  ∃r out,af P L 144 [v,w] r/\bO r out/\lo 18446744073709551616 out/\gU out/\bv 18446744073709551616 out=bv 18446744073709551616 x*bv 18446744073709551616 y:=by
 obtain ⟨n,hn⟩:∃n,n=x.length+y.length:=⟨_,rfl⟩;unfold af;rw [aq h]
 simp only [go_sem,ya,yb,PC,hv.len,hw.len,wrapN (n:=n) (by omega),show (x.length:Int)+(y.length:Int)=((x.length+y.length:Nat):Int) from rfl,<-hn,Et (n:=n) _ (by omega)];generalize hq:D P L (.loop [1,5,20,21,22] JY) _=q;obtain ⟨ex,s,rfl,tm,o,rfl,rfl,t5,hlen,bt,aR⟩:=bV hq (aut (P:=P) (L:=L) me ib hv hw hx hy lx ly hn x.length)
  ⟨0,yz n 0,by simp only [go_sem,ya,yb,av,az hv.pu,aE _ hv.pu,az hw.pu,aE _ hw.pu]<;>rfl,by omega,by simp,F7 (by decide) n,by rw [F9];simp [bv],fun m _=>DH n m⟩
 have hf:=nS true o;rw [hlen] at hf;obtain ⟨r,e1,hr⟩:=CH nC hf (by omega);refine ⟨r,_,?_,hr,BW bt,BV _,by rw [BU];exact aR⟩
 simp only [go_sem,yb,av,t5,CG _ (n:=n) (l:=o) hlen true,e1,hr.shut,hr.dM]
end
end
section
open Go (IntKind)
def OZ (n:Int):IntKind.wrap .u64 n=n%18446744073709551616:=by
 simp [IntKind.wrap,IntKind.signed,IntKind.bits]
def wrapM (n:Nat):IntKind.wrap .u64 (n:Int)=((n%18446744073709551616:Nat):Int):=by rw [OZ];omega
def qw (a b:Nat):binOp .mul (uc a) (uc b)=some (uc (a*b%18446744073709551616)):=by
 rw [ad3,<-xS,wrapM]
def Cm (a b:Nat):binOp .add (uc a) (uc b)=some (uc ((a+b)%18446744073709551616)):=by
 rw [ad2,<-Int.natCast_add,wrapM]
def Eu {a b c:Nat} (h:(a+18446744073709551616-b)%18446744073709551616=c) (hb:b<=18446744073709551616):binOp .sub (uc a) (uc b)=some (uc c):=by
 rw [N9,OZ]
 grind
def auu (k k':yU) (a b:Int):binOp .shl (.int k a) (.int k' b)=DE .shl k a b:=rfl
def auv (k k':yU) (a b:Int):binOp .shr (.int k a) (.int k' b)=DE .shr k a b:=rfl
def Lb (k:yU) (a:Nat) {s:Nat} (hs:s<=64):binOp .shl (.int .u64 (a:Int)) (.int k (s:Int))=some (uc (a*2^s%18446744073709551616)):=by
 rw [auu];simp only [DE,yr (show ¬(s:Int)<0 by omega),wo,IntKind.bits,xY hs];rw [show ((2:Int)^s)=((2^s:Nat):Int) by simp,<-xS,wrapM]
def Lc (k:yU) (a:Nat) {s:Nat} (hs:s<=64):binOp .shr (.int .u64 (a:Int)) (.int k (s:Int))=some (uc (a/2^s)):=by
 rw [auv];simp only [DE,yr (show ¬(s:Int)<0 by omega),wo,IntKind.bits,xY hs]
 grind
def ahL (a:Nat):binOp .and (.int .u64 (a:Int)) (.int .u64 4294967295)=some (uc (a%4294967296)):=by
 show some (AV.int .u64 (IntKind.wrap .u64 ((xG 64 (a:Int)&&&xG 64 4294967295).toNat:Int)))=_
 rw [show xG 64 (a:Int)=uk 64 a from um 64 a,show xG 64 4294967295=uk 64 4294967295 from rfl];rw [BitVec.toNat_and,vm,vm,show (4294967295%2^64:Nat)=2^32-1 from rfl,Nat.and_two_pow_sub_one_eq_mod,wrapM]
 grind
def XN {a b:Nat} (ha:a<18446744073709551616) (hb:b<18446744073709551616):binOp .or (.int .u64 (a:Int)) (.int .u64 (b:Int))=some (uc (a|||b)):=by
 show some (AV.int .u64 (IntKind.wrap .u64 ((xG 64 (a:Int)|||xG 64 (b:Int)).toNat:Int)))=_
 congr 2
 rw [show xG 64 (a:Int)=uk 64 a from um 64 a,show xG 64 (b:Int)=uk 64 b from um 64 b];rw [BitVec.toNat_or,vm,vm,yP (show a<2^64 from ha),yP (show b<2^64 from hb),wrapM]
 have:a|||b<2^64:=Nat.or_lt_two_pow ha hb
 omega
def UC {p s c:Nat} (h:c<2^s):(p*2^s)|||c=p*2^s+c:=by
 rw [<-Nat.shiftLeft_eq,<-Nat.shiftLeft_add_eq_or_of_lt h]
def aay:∀(f n:Nat),n<2^f->ff f n<=f/\n<2^ff f n/\(0<n->0<ff f n/\2^(ff f n-1)<=n)
 | 0,n,h=>by simp [ff];simpa using h
 | f+1,n,h=>by
  simp only [ff];by_cases h0:n=0
  ·simp_all
  ·rw [cP h0,yD];obtain ⟨h1,h2,h3⟩:=aay f (n/2) (by omega);refine ⟨by omega,?_,fun _=>⟨by omega,?_⟩⟩
   ·grind
   ·rw [Nat.add_sub_cancel_left];by_cases hn:0<n/2
    ·obtain ⟨h4,h5⟩:=h3 hn;obtain ⟨m,hm⟩:∃m,ff f (n/2)=m+1:=⟨ff f (n/2)-1,by omega⟩
     grind
    ·have hz:n/2=0:=by omega
     have:ff f 0=0:=by cases f with
      | zero=>rfl
      | succ f=>rfl
     grind
def Tm {y:Nat} (h0:0<y) (h:y<18446744073709551616):64-ff 64 y<64/\9223372036854775808<=y*2^(64-ff 64 y)/\y*2^(64-ff 64 y)<18446744073709551616:=by
 obtain ⟨h1,h2,h3⟩:=aay 64 y h;obtain ⟨h4,h5⟩:=h3 h0;generalize ff 64 y=k at*
 refine ⟨by omega,?_,?_⟩
 ·have:=y5 (2^(64-k)) h5
  rw [<-wJ,show k-1+(64-k)=63 by omega] at this;exact this
 ·have:=wL h2 (wS (64-k))
  rw [<-wJ,show k+(64-k)=64 by omega] at this;exact this
section
variable {P:aI} {L:Lib} {f:cT}
def afN (h:L.pure 167=some Gs) {x:Nat} (hx:x<18446744073709551616):bY P L f 167 [uc x]=some (aa (64-ff 64 x:Nat)):=by
 rw [iP h];show (bif yJ x 18446744073709551616 then _ else none)=_
 rw [lk hx];rfl
def anh {b v1 v2 u u2 t r:Nat} (di:v2<b) (lG:t<b) (ht:t*v1+r=u) (h:b<=r\/t*v2<=b*r+u2):t*(v1*b+v2)<=u*b+u2:=by
 have h2:t*v2<=b*r+u2:=by
  rcases h with h | h
  ·have:=xL (tz lG) (tz di)
   have:=yQ b h
   omega
  ·exact h
 rw [xH,<-xn,<-ht,wZ,xQ r b];omega
def awl (n:Nat):oP (.toInt .u64) (.int .i64 (n:Int))=some (uc (n%18446744073709551616)):=by
 show some (AV.int .u64 (IntKind.wrap .u64 (n:Int)))=_
 rw [wrapM]
def ZW {y v1 v2 u u2 q r:Nat} (hy:y=v1*4294967296+v2) (di:v2<4294967296) (HA:0<v1) (eN:v1<4294967296) (hu:u<y) (Bp:u2<4294967296) (hq:q*v1+r=u) (hr:r<4294967296) (hQ:(u*4294967296+u2)/y<=q):
  (4294967296<=q\/4294967296*r+u2<q*v2->0<q/\(q-1)*v1+(r+v1)=u/\(u*4294967296+u2)/y<=q-1/\(4294967296<=r+v1->(u*4294967296+u2)/y=q-1))/\
  (¬4294967296<=q->q*v2<=4294967296*r+u2->(u*4294967296+u2)/y=q):=by
 have jk:0<y:=by omega
 have Q4:∀t s,t*v1+s=u->4294967296<=t->s<4294967296:=fun t s h1 h2=>by
  have:=y5 v1 h2
  grind
 have afO:∀t s,t*v1+s=u->t<4294967296->(4294967296<=s\/t*v2<=4294967296*s+u2)->(u*4294967296+u2)/y<=t->(u*4294967296+u2)/y=t:=fun t s h1 h2 h3 h4=>by
  have:=anh di h2 h1 h3
  rw [<-hy] at this
  have:=(Nat.le_div_iff_mul_le jk).2 this
  omega
 constructor
 ·intro h;have Bs:0<q:=by
   grind
  have h1:(q-1)*v1+(r+v1)=u:=by
   obtain ⟨p,rfl⟩:∃p,q=p+1:=⟨q-1,by omega⟩
   grind
  have h2:(u*4294967296+u2)/y<=q-1:=by
   have bm:u*4294967296+u2<q*y:=by
    rcases h with h | h
    ·have h3:u*4294967296+u2<4294967296*y:=by omega
     exact Nat.lt_of_lt_of_le h3 (y5 y h)
    ·rw [hy,xH,<-xn,<-hq,wZ,xQ r];omega
   have:=(wH jk).2 bm
   omega
  exact ⟨Bs,h1,h2,fun h3=>afO _ _ h1 (by
   by_cases hb:4294967296<=q-1
   ·have:=Q4 _ _ h1 hb;omega
   ·omega) (.inl h3) h2⟩
 ·intro h1 h2;exact afO q r hq (by omega) (.inr h2) hQ
def auw {y s v1 v2 u u2 z:Nat} (hy:y=v1*4294967296+v2) (di:v2<4294967296) (HA:0<v1) (eN:v1<4294967296) (hu:u<y) (Bp:u2<4294967296):
  ∀k st,(∃q r:Nat,bA [2,8,9,10,11,13,14,15,16] st=⟨[(2,uc y),(8,uc s),(9,uc v1),(10,uc v2),(11,uc u),(13,uc u2),(14,uc z),(15,uc q),(16,uc r)],[],0,0⟩/\q*v1+r=u/\r<4294967296/\(u*4294967296+u2)/y<=q/\q=k)->
   ∃ex st',D P L (.loop [2,8,9,10,11,13,14,15,16] B5) st=some (ex,st')/\∃tm ct,st'=⟨tm,[],ct,0⟩/\ex= .exit 0/\ab tm 2=uc y/\ab tm 8=uc s/\ab tm 9=uc v1/\ab tm 10=uc v2/\ab tm 11=uc u/\ab tm 13=uc u2/\ab tm 14=uc z/\ab tm 15=uc ((u*4294967296+u2)/y):=by
 refine cg (I:=fun k st=>∃q r:Nat,st=⟨[(2,uc y),(8,uc s),(9,uc v1),(10,uc v2),(11,uc u),(13,uc u2),(14,uc z),(15,uc q),(16,uc r)],[],0,0⟩/\q*v1+r=u/\r<4294967296/\(u*4294967296+u2)/y<=q/\q=k)
  (Q:=fun ex st'=>∃tm ct,st'=⟨tm,[],ct,0⟩/\ex= .exit 0/\ab tm 2=uc y/\ab tm 8=uc s/\ab tm 9=uc v1/\ab tm 10=uc v2/\ab tm 11=uc u/\ab tm 13=uc u2/\ab tm 14=uc z/\ab tm 15=uc ((u*4294967296+u2)/y)) ?_
 rintro k st ⟨q,r,rfl,hq,hr,hQ,rfl⟩;obtain ⟨g1,g2⟩:=ZW hy di HA eN hu Bp hq hr hQ;have hqb:q*1<=q*v1:=yQ q HA;have axH:=y5 4294967296 (show v1<=4294967295 by omega);have pz:q<18446744073709551616:=by omega
 have Xg:=yQ 4294967296 (show r<=4294967295 by omega);have e1:=qw 4294967296 r;rw [show uc 4294967296=AV.int .u64 4294967296 from rfl,yP (show 4294967296*r<18446744073709551616 by omega)] at e1;have e2:=Cm (4294967296*r) u2;rw [yP (show 4294967296*r+u2<18446744073709551616 by omega)] at e2;have e4:=Cm r v1;rw [yP (show r+v1<18446744073709551616 by omega)] at e4;by_cases hc:4294967296<=q\/4294967296*r+u2<q*v2
 ·obtain ⟨h0,h1,h2,h3⟩:=g1 hc;have e3:binOp .sub (uc q) (.int .u64 1)=some (uc (q-1)):=Eu (b:=1) (by omega) (by omega);by_cases hb:4294967296<=r+v1
  ·right
   have Bt:=h3 hb;rcases (show 4294967296<=q\/(¬4294967296<=q/\4294967296*r+u2<q*v2) by omega) with t1 | ⟨t1,t2⟩
   ·simp only [go_sem,ya,B5,show (4294967296:Int)<=(q:Int) by omega,e3,e4,show (4294967296:Int)<=((r+v1:Nat):Int) by omega];exact ⟨_,_,rfl,by simp,_,_,rfl,rfl,by simp only [go_sem,ya],by simp only [go_sem,ya],by simp only [go_sem,ya],by simp only [go_sem,ya],by simp only [go_sem,ya],by simp only [go_sem,ya],by simp only [go_sem,ya],by rw [Bt];simp only [go_sem,ya]⟩
   ·have XO:=xL (show q<=4294967295 by omega) (show v2<=4294967295 by omega);have e5:=qw q v2;rw [yP (show q*v2<18446744073709551616 by omega)] at e5;simp only [go_sem,ya,B5,show ¬(4294967296:Int)<=(q:Int) by omega,e5,e1,e2,show ((4294967296*r+u2:Nat):Int)<((q*v2:Nat):Int) by omega,e3,e4,show (4294967296:Int)<=((r+v1:Nat):Int) by omega];exact ⟨_,_,rfl,by simp,_,_,rfl,rfl,by simp only [go_sem,ya],by simp only [go_sem,ya],by simp only [go_sem,ya],by simp only [go_sem,ya],by simp only [go_sem,ya],by simp only [go_sem,ya],by simp only [go_sem,ya],by rw [Bt];simp only [go_sem,ya]⟩
  ·left
   rcases (show 4294967296<=q\/(¬4294967296<=q/\4294967296*r+u2<q*v2) by omega) with t1 | ⟨t1,t2⟩
   ·simp only [go_sem,ya,B5,show (4294967296:Int)<=(q:Int) by omega,e3,e4,show ¬(4294967296:Int)<=((r+v1:Nat):Int) by omega];exact ⟨_,q-1,rfl,by omega,q-1,r+v1,by simp only [go_sem,ya,av],h1,by omega,h2,rfl⟩
   ·have XO:=xL (show q<=4294967295 by omega) (show v2<=4294967295 by omega);have e5:=qw q v2;rw [yP (show q*v2<18446744073709551616 by omega)] at e5;simp only [go_sem,ya,B5,show ¬(4294967296:Int)<=(q:Int) by omega,e5,e1,e2,show ((4294967296*r+u2:Nat):Int)<((q*v2:Nat):Int) by omega,e3,e4,show ¬(4294967296:Int)<=((r+v1:Nat):Int) by omega];exact ⟨_,q-1,rfl,by omega,q-1,r+v1,by simp only [go_sem,ya,av],h1,by omega,h2,rfl⟩
 ·right
  have Bt:=g2 (by omega) (by omega);have e5:=qw q v2;rw [yP (show q*v2<18446744073709551616 by omega)] at e5;simp only [go_sem,ya,B5,show ¬(4294967296:Int)<=(q:Int) by omega,e5,e1,e2,show ¬((4294967296*r+u2:Nat):Int)<((q*v2:Nat):Int) by omega];exact ⟨_,_,rfl,by simp,_,_,rfl,rfl,by simp only [go_sem,ya],by simp only [go_sem,ya],by simp only [go_sem,ya],by simp only [go_sem,ya],by simp only [go_sem,ya],by simp only [go_sem,ya],by simp only [go_sem,ya],by rw [Bt];simp only [go_sem,ya]⟩
end
end
section
open Go (IntKind)
section
variable {P:aI} {L:Lib} {f:cT}
def auy {y s v1 v2 u u2 z:Nat} (hy:y=v1*4294967296+v2) (di:v2<4294967296) (HA:0<v1) (eN:v1<4294967296) (hu:u<y) (Bp:u2<4294967296):
  ∀k st,(∃q r:Nat,bA [2,8,9,10,14,15,16,17,18] st=⟨[(2,uc y),(8,uc s),(9,uc v1),(10,uc v2),(14,uc u2),(15,uc z),(16,uc r),(17,uc u),(18,uc q)],[],0,0⟩/\q*v1+r=u/\r<4294967296/\(u*4294967296+u2)/y<=q/\q=k)->
   ∃ex st',D P L (.loop [2,8,9,10,14,15,16,17,18] B6) st=some (ex,st')/\∃tm ct,st'=⟨tm,[],ct,0⟩/\ex= .exit 2/\ab tm 2=uc y/\ab tm 8=uc s/\ab tm 9=uc v1/\ab tm 10=uc v2/\ab tm 14=uc u2/\ab tm 15=uc z/\ab tm 17=uc u/\ab tm 18=uc ((u*4294967296+u2)/y):=by
 refine cg (I:=fun k st=>∃q r:Nat,st=⟨[(2,uc y),(8,uc s),(9,uc v1),(10,uc v2),(14,uc u2),(15,uc z),(16,uc r),(17,uc u),(18,uc q)],[],0,0⟩/\q*v1+r=u/\r<4294967296/\(u*4294967296+u2)/y<=q/\q=k)
  (Q:=fun ex st'=>∃tm ct,st'=⟨tm,[],ct,0⟩/\ex= .exit 2/\ab tm 2=uc y/\ab tm 8=uc s/\ab tm 9=uc v1/\ab tm 10=uc v2/\ab tm 14=uc u2/\ab tm 15=uc z/\ab tm 17=uc u/\ab tm 18=uc ((u*4294967296+u2)/y)) ?_
 rintro k st ⟨q,r,rfl,hq,hr,hQ,rfl⟩;obtain ⟨g1,g2⟩:=ZW hy di HA eN hu Bp hq hr hQ;have hqb:q*1<=q*v1:=yQ q HA;have axH:=y5 4294967296 (show v1<=4294967295 by omega);have pz:q<18446744073709551616:=by omega
 have Xg:=yQ 4294967296 (show r<=4294967295 by omega);have e1:=qw 4294967296 r;rw [show uc 4294967296=AV.int .u64 4294967296 from rfl,yP (show 4294967296*r<18446744073709551616 by omega)] at e1;have e2:=Cm (4294967296*r) u2;rw [yP (show 4294967296*r+u2<18446744073709551616 by omega)] at e2;have e4:=Cm r v1;rw [yP (show r+v1<18446744073709551616 by omega)] at e4;by_cases hc:4294967296<=q\/4294967296*r+u2<q*v2
 ·obtain ⟨h0,h1,h2,h3⟩:=g1 hc;have e3:binOp .sub (uc q) (.int .u64 1)=some (uc (q-1)):=Eu (b:=1) (by omega) (by omega);by_cases hb:4294967296<=r+v1
  ·right
   have Bt:=h3 hb;rcases (show 4294967296<=q\/(¬4294967296<=q/\4294967296*r+u2<q*v2) by omega) with t1 | ⟨t1,t2⟩
   ·simp only [go_sem,ya,B6,show (4294967296:Int)<=(q:Int) by omega,e3,e4,show (4294967296:Int)<=((r+v1:Nat):Int) by omega];exact ⟨_,_,rfl,by simp,_,_,rfl,rfl,by simp only [go_sem,ya],by simp only [go_sem,ya],by simp only [go_sem,ya],by simp only [go_sem,ya],by simp only [go_sem,ya],by simp only [go_sem,ya],by simp only [go_sem,ya],by rw [Bt];simp only [go_sem,ya]⟩
   ·have XO:=xL (show q<=4294967295 by omega) (show v2<=4294967295 by omega);have e5:=qw q v2;rw [yP (show q*v2<18446744073709551616 by omega)] at e5;simp only [go_sem,ya,B6,show ¬(4294967296:Int)<=(q:Int) by omega,e5,e1,e2,show ((4294967296*r+u2:Nat):Int)<((q*v2:Nat):Int) by omega,e3,e4,show (4294967296:Int)<=((r+v1:Nat):Int) by omega];exact ⟨_,_,rfl,by simp,_,_,rfl,rfl,by simp only [go_sem,ya],by simp only [go_sem,ya],by simp only [go_sem,ya],by simp only [go_sem,ya],by simp only [go_sem,ya],by simp only [go_sem,ya],by simp only [go_sem,ya],by rw [Bt];simp only [go_sem,ya]⟩
  ·left
   rcases (show 4294967296<=q\/(¬4294967296<=q/\4294967296*r+u2<q*v2) by omega) with t1 | ⟨t1,t2⟩
   ·simp only [go_sem,ya,B6,show (4294967296:Int)<=(q:Int) by omega,e3,e4,show ¬(4294967296:Int)<=((r+v1:Nat):Int) by omega];exact ⟨_,q-1,rfl,by omega,q-1,r+v1,by simp only [go_sem,ya,av],h1,by omega,h2,rfl⟩
   ·have XO:=xL (show q<=4294967295 by omega) (show v2<=4294967295 by omega);have e5:=qw q v2;rw [yP (show q*v2<18446744073709551616 by omega)] at e5;simp only [go_sem,ya,B6,show ¬(4294967296:Int)<=(q:Int) by omega,e5,e1,e2,show ((4294967296*r+u2:Nat):Int)<((q*v2:Nat):Int) by omega,e3,e4,show ¬(4294967296:Int)<=((r+v1:Nat):Int) by omega];exact ⟨_,q-1,rfl,by omega,q-1,r+v1,by simp only [go_sem,ya,av],h1,by omega,h2,rfl⟩
 ·right
  have Bt:=g2 (by omega) (by omega);have e5:=qw q v2;rw [yP (show q*v2<18446744073709551616 by omega)] at e5;simp only [go_sem,ya,B6,show ¬(4294967296:Int)<=(q:Int) by omega,e5,e1,e2,show ¬((4294967296*r+u2:Nat):Int)<((q*v2:Nat):Int) by omega];exact ⟨_,_,rfl,by simp,_,_,rfl,rfl,by simp only [go_sem,ya],by simp only [go_sem,ya],by simp only [go_sem,ya],by simp only [go_sem,ya],by simp only [go_sem,ya],by simp only [go_sem,ya],by simp only [go_sem,ya],by rw [Bt];simp only [go_sem,ya]⟩
def ag1 (a:Nat):binOp .shr (.int .u64 (a:Int)) (.int .u64 32)=some (uc (a/4294967296)):=Lc .u64 a (s:=32) (by decide)
def ahM (a:Nat) {b:Nat} (ha:a<18446744073709551616) (hb:0<b):binOp .quo (uc a) (uc b)=some (uc (a/b)):=by
 rw [eU _ _ _ (by omega),Int.tdiv_eq_ediv_of_nonneg (by omega),<-Int.natCast_ediv,wrapM,yP];exact xR (vQ a b) ha
def axI (a:Nat) {b:Nat} (hb:0<b):binOp .rem (uc a) (uc b)=some (uc (a%b)):=by
 rw [dK _ _ _ (by omega),Int.tmod_eq_emod_of_nonneg (by omega),<-Int.natCast_emod]
def ani {hi lo y s u z Y:Nat} (hs:s<64) (bt:lo<18446744073709551616) (hY:Y=y*2^s) (hu:u=hi*2^s+lo/2^(64-s)) (hz:z=lo*2^s%18446744073709551616):
  (hi*18446744073709551616+lo)*2^s=u*18446744073709551616+z:=by
 have e:18446744073709551616=2^(64-s)*2^s:=by rw [<-wJ,show 64-s+s=64 by omega]
 have h1:lo*2^s/18446744073709551616=lo/2^(64-s):=by
  rw [e,tX _ _ (wS s)]
 grind
def abo {Y q a b:Nat} (h1:a<Y) (h2:b<4294967296) (h3:q=(a*4294967296+b)/Y):q<4294967296:=by
 rw [h3];exact (wH (by omega)).2 (by omega)
def apw {u w x z z0 z1 q0 q1 Y:Nat} (jW:q1*Y+w=u*4294967296+z1) (gN:q0*Y+x=w*4294967296+z0) (hz:z=z1*4294967296+z0):u*18446744073709551616+z=(q1*4294967296+q0)*Y+x:=by grind
def alJ {q1 q0:Nat} (h1:q1<4294967296) (h0:q0<4294967296):q1*4294967296<18446744073709551616/\q1*4294967296+q0<18446744073709551616:=by omega
def ahN (h:Has P L 165 KM) (Ld:L.pure 167=some Gs) {hi lo y:Nat} (gW:hi<y) (bt:lo<18446744073709551616) (hy:y<18446744073709551616):
  af P L 165 [uc hi,uc lo,uc y] (.aw [uc ((hi*18446744073709551616+lo)/y),uc ((hi*18446744073709551616+lo)%y)]):=by
 have jk:0<y:=by omega
 by_cases h0:hi=0
 ·subst h0;have e1:=ahM lo bt jk;have e2:=axI lo jk;rw [Nat.zero_mul,yd];unfold af;rw [aq h];simp only [go_sem,ya,KM,show ¬(y:Int)=0 by omega,show ¬(y:Int)<=0 by omega,show ((0:Nat):Int)=0 from rfl,e1,e2];rfl
 ·obtain ⟨s,hs⟩:∃s,s=64-ff 64 y:=⟨_,rfl⟩;have hl:=afN (P:=P) (f:=D P L) Ld hy;obtain ⟨l1,l2,l3⟩:=Tm jk hy;rw [<-hs] at hl l1 l2 l3;obtain ⟨Y,hY⟩:∃Y,Y=y*2^s:=⟨_,rfl⟩;obtain ⟨u,hu⟩:∃u,u=hi*2^s+lo/2^(64-s):=⟨_,rfl⟩;obtain ⟨z,hz⟩:∃z,z=lo*2^s%18446744073709551616:=⟨_,rfl⟩;have hdiv:=ani l1 bt hY hu hz;rw [<-hY] at l2 l3;have hp:=wS s;obtain ⟨v1,eN⟩:∃v,v=Y/4294967296:=⟨_,rfl⟩;obtain ⟨v2,di⟩:∃v,v=Y%4294967296:=⟨_,rfl⟩;have hYv:Y=v1*4294967296+v2:=by omega
  obtain ⟨z1,mN⟩:∃v,v=z/4294967296:=⟨_,rfl⟩;obtain ⟨z0,mS⟩:∃v,v=z%4294967296:=⟨_,rfl⟩;have HB:z<18446744073709551616:=by omega
  have hhY:hi*2^s<Y:=by rw [hY];exact wL gW hp
  have jg:lo/2^(64-s)<2^s:=by
   refine (wH (wS _)).2 ?_;rw [<-wJ,show s+(64-s)=64 by omega];exact bt
  have pf:hi*2^s|||lo/2^(64-s)=u:=by rw [UC jg,hu]
  have hN:hi*18446744073709551616+lo<y*18446744073709551616:=by
   have:=y5 18446744073709551616 (show hi+1<=y from gW)
   omega
  have XP:u<Y:=by
   have h1:=wL hN hp;rw [hdiv,Nat.mul_right_comm,<-hY] at h1;omega
  obtain ⟨q1,fa⟩:∃q,q=(u*4294967296+z1)/Y:=⟨_,rfl⟩;obtain ⟨w,hw⟩:∃q,q=(u*4294967296+z1)%Y:=⟨_,rfl⟩;obtain ⟨q0,Bs⟩:∃q,q=(w*4294967296+z0)/Y:=⟨_,rfl⟩;obtain ⟨x,hx⟩:∃q,q=(w*4294967296+z0)%Y:=⟨_,rfl⟩;have Q5:w<Y:=by rw [hw];exact xD _ (by omega)
  have XQ:x<Y:=by rw [hx];exact xD _ (by omega)
  have jW:=wC (u*4294967296+z1) Y;rw [<-fa,<-hw,xQ] at jW;have gN:=wC (w*4294967296+z0) Y;rw [<-Bs,<-hx,xQ] at gN;have axJ:=abo XP (show z1<4294967296 by omega) fa;have axK:=abo Q5 (show z0<4294967296 by omega) Bs;obtain ⟨td1,td2⟩:=alJ axJ axK;have P1:(hi*18446744073709551616+lo)*2^s=(q1*4294967296+q0)*Y+x:=by
   rw [hdiv];exact apw jW gN (by omega)
  have r1:(hi*18446744073709551616+lo)/y=q1*4294967296+q0:=by
   rw [<-tX _ _ hp,P1,<-hY,xQ _ Y,Nat.mul_add_div (by omega),Nat.div_eq_of_lt XQ,yZ]
  have r2:x/2^s=(hi*18446744073709551616+lo)%y:=by
   have h1:x=(hi*18446744073709551616+lo)*2^s%(y*2^s):=by
    rw [P1,<-hY,xQ _ Y,Nat.mul_add_mod,yP XQ]
   rw [h1,Nat.mul_mod_mul_right,Nat.mul_div_cancel _ hp]
  have o1:=Lb .u64 y (s:=s) (by omega);rw [<-hY,yP l3] at o1;have o2:=ag1 Y;rw [<-eN] at o2;have o3:=ahL Y;rw [<-di] at o3;have o4:=Lb .u64 hi (s:=s) (by omega);rw [yP (show hi*2^s<18446744073709551616 by omega)] at o4;have o5:binOp .sub (.int .u64 64) (uc s)=some (uc (64-s)):=Eu (a:=64) (by omega) (by omega);have o6:=Lc .u64 lo (s:=64-s) (by omega);have o7:=XN (a:=hi*2^s) (b:=lo/2^(64-s)) (by omega) (xR (vQ _ _) bt);rw [pf] at o7;have o8:=Lb .u64 lo (s:=s) (by omega);rw [<-hz] at o8;have o9:=ag1 z;rw [<-mN] at o9;have o10:=ahL z;rw [<-mS] at o10;have GW:0<v1:=by omega
  have ag2:∀{a:Nat},a<Y->binOp .quo (uc a) (uc v1)=some (uc (a/v1))/\binOp .mul (uc (a/v1)) (uc v1)=some (uc (a/v1*v1))/\binOp .sub (uc a) (uc (a/v1*v1))=some (uc (a%v1)):=fun {a} ha=>by
   have h1:=wC a v1;rw [xQ] at h1;have h2:=qw (a/v1) v1;generalize a/v1*v1=m at*
   rw [yP (show m<18446744073709551616 by omega)] at h2;exact ⟨ahM a (by omega) GW,h2,Eu (by omega) (by omega)⟩
  obtain ⟨g1,g2,g3⟩:=ag2 XP;obtain ⟨g4,g5,g6⟩:=ag2 Q5;have first:∀{a b:Nat},b<4294967296->(a*4294967296+b)/Y<=a/v1:=fun {a b} hb=>by
   have:=R1 (b:=4294967296) (V:=Y) (v1:=v1) (v2:=v2) (vr:=0) (U:=a*4294967296+b) (u0:=0) (u1:=a) (u2:=b) (ur:=0) (p:=1) (by omega) (by omega) (by decide) hb GW
   simpa using this
  have back:∀{a b q x:Nat},a*4294967296+b=q*Y+x->x<Y->binOp .mul (uc a) (.int .u64 4294967296)=some (uc (a*4294967296%18446744073709551616))/\binOp .add (uc (a*4294967296%18446744073709551616)) (uc b)=some (uc ((a*4294967296%18446744073709551616+b)%18446744073709551616))/\
    binOp .mul (uc q) (uc Y)=some (uc (q*Y%18446744073709551616))/\binOp .sub (uc ((a*4294967296%18446744073709551616+b)%18446744073709551616)) (uc (q*Y%18446744073709551616))=some (uc x):=fun {a b q x} h1 h2=>by
   refine ⟨qw a 4294967296,Cm _ _,qw q Y,Eu ?_ (by omega)⟩;generalize q*Y=m at*
   omega
  obtain ⟨k1,k2,k3,k4⟩:=back jW.symm Q5;obtain ⟨k5,k6,k7,k8⟩:=back gN.symm XQ;have m1:=qw q1 4294967296;rw [yP td1,show uc 4294967296=AV.int .u64 4294967296 from rfl] at m1;have m2:=Cm (q1*4294967296) q0;rw [yP td2] at m2;have m3:=Lc .u64 x (s:=s) (by omega);rw [r1,<-r2];unfold af;rw [aq h];simp only [go_sem,ya,KM,show ¬(y:Int)=0 by omega,show ¬(y:Int)<=(hi:Int) by omega,show ¬(hi:Int)=0 by omega,hl,awl,yP (show s<18446744073709551616 by omega),o1,o2,o3,o4,o5,o6,o7,o8,o9,o10,g1,g2,g3];generalize mT:D P L (.loop [2,8,9,10,11,13,14,15,16] B5) _=qq
  obtain ⟨ex,st,rfl,tm,ct,rfl,rfl,t2,t8,t9,t10,t11,t13,t14,t15⟩:=bV mT (auw (P:=P) (L:=L) (s:=s) (z:=z0) hYv (by omega) GW (by omega) XP (show z1<4294967296 by omega) (u/v1)) ⟨u/v1,u%v1,by simp only [go_sem,ya,av],by rw [xQ];exact wC u v1,by have:=xD u GW;omega,first (by omega),rfl⟩
  rw [<-fa] at t15;simp only [go_sem,ya,av,t2,t8,t9,t10,t11,t13,t14,t15,k1,k2,k3,k4,g4,g5,g6];generalize Ev:D P L (.loop [2,8,9,10,14,15,16,17,18] B6) _=XR;obtain ⟨ex,st,rfl,oZ,ct2,rfl,rfl,t2,t8,t9,t10,t14,t15,t17,t18⟩:=bV Ev (auy (P:=P) (L:=L) (s:=s) (z:=q1) hYv (by omega) GW (by omega) Q5 (show z0<4294967296 by omega) (w/v1)) ⟨w/v1,w%v1,by simp only [go_sem,ya,av],by rw [xQ];exact wC w v1,by have:=xD w GW;omega,first (by omega),rfl⟩
  rw [<-Bs] at t18;simp only [go_sem,ya,av,t2,t8,t14,t15,t17,t18,m1,m2,k5,k6,k7,k8,m3];rfl
end
end
end VE
