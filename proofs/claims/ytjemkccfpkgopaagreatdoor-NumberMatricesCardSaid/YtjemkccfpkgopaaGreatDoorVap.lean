import Derived.Test.YtjemkccfpkgopaaGreatDoorVao
import Derived.Test.YtjemkccfpkgopaaGreatDoorVag
set_option linter.all false
set_option maxRecDepth 100000
open BitVec renaming ofInt→xM,ofInt_natCast→uE,ofNat→uD,toNat_ofNat→vE
open Bool renaming and_eq_true→yh,and_self→wT,false_and→xP,false_eq_true→yL
open Go renaming IntKind→y7
open Int renaming natCast_mul→vc,toNat_natCast→xU
open List renaming append_assoc→xA,append_nil→wo,cons_append→xk,drop→vT,drop_drop→vS,drop_eq_getElem_cons→yS,drop_eq_nil_of_le→xh,drop_left'→uA,drop_zero→yK,filter_cons→yaK,filter_eq_nil_iff→tW,getD_eq_getElem?_getD→xf,length_cons→yI,length_drop→xN,length_nil→yP,length_reverse→yaq,length_take→yy,map_append→xg,map_take→tL,mem_append→wK,mem_singleton→wV,nil_append→xC,range'→we,range'_succ→ua,replicate→yk,replicate_succ→wO,reverse_cons→yaB,set_append_right→yac,take_append_drop→xQ,take_length→xB,take_of_length_le→yC,take_succ_eq_append_getElem→yW
open Nat renaming add_comm→yaQ,add_mul→wE,add_sub_cancel→tE,add_zero→y5,beq→yx,beq_refl→wP,ble→yG,ble_eq_true_of_le→yu,blt→yR,div_add_mod→xR,div_eq_of_lt→wM,div_le_self→vB,div_lt_iff_lt_mul→xV,eq_zero_or_pos→xq,le_of_ble_eq_true→yz,le_of_lt→uW,le_refl→yv,le_trans→xj,lt_of_le_of_lt→wJ,lt_of_lt_of_le→yU,min_eq_left→xm,mod_add_div→tx,mod_eq_of_lt→yX,mod_lt→xE,mul_add→xG,mul_add_div→tz,mul_add_mod→tA,mul_assoc→xp,mul_comm→xJ,mul_div_mul_right→uI,mul_le_mul→wu,mul_le_mul_left→yZ,mul_le_mul_right→yQ,mul_lt_mul_of_pos_right→wz,mul_mod_mul_right→vM,mul_one→yf,mul_zero→xH,or_comm→ybN,pos_of_ne_zero→yaC,pow_add→wL,pow_le_pow_right→yY,pow_succ→xd,pow_zero→ybC,reduceAdd→yb,reduceEqDiff→ya,reduceLT→yF,reduceLeDiff→yp,reduceMul→xn,two_pow_pos→wC,zero_add→ye,zero_le→ue,zero_mul→tQ
namespace VE
section
open Go (IntKind)
section
variable {P:aM} {L:Lib}
def YV (h:Has P L 302 sG) {v:AV} {l:List Int} (hv:bC v l) (i:Nat):aj P L 302 [v,ab i] (ab (l.getD i 0)):=by
 unfold aj;rw [aI h];by_cases hi:i<l.length
 ·simp only [go_sem,ya,sG,hv.len,show (i:Int)<l.length by omega,hv.aU hi];simp [xf,List.getElem?_eq_getElem hi]
 ·simp only [go_sem,ya,sG,hv.len,show ¬(i:Int)<l.length by omega];simp [xf,List.getElem?_eq_none (Nat.le_of_not_lt hi)]
def ahz {hp:Hp} {e:Bool} {n:Nat} {cs:List AV} {tm:Env} {h:Nat} {x:X} (hx:df tm n (some x)=some h) (hh:h<=n):
  fg hp (.sl 1) (.aB e n cs) tm none (some x)=some (.aB (e&&yx h n) h (cs.take h)):=by
 simp only [fg,hx,ff];simp [yu hh,slice];rw [show yG 0 h=true from yu (ue _)];rfl
def BO (h:Has P L 300 lI) {v:AV} {l:List Int} (hv:bC v l) (hl:l.length<=20000000000):∃r,aj P L 300 [v] r/\bC r (eb l)/\shut r=r:=by
 rcases hv with ⟨rfl,h0⟩ | ⟨e,rfl⟩
 ·have:l=[]:=by simpa using h0
  subst this;refine ⟨.aa,?_,oW,rfl⟩;unfold aj;rw [aI h];simp only [go_sem,ya,lI,NI,C7,av,show ¬(0:Int)<0 by decide]
 ·have key:=eP (P:=P) (L:=L) (live:=[0]) (a:=C7)
   (I:=fun k st=>∃(i:Nat) (e:Bool),st=⟨[(0,.aB e i ((l.take i).map ab))],[],0,0⟩/\i<=l.length/\i=k/\eb (l.take i)=eb l)
   (Q:=fun ex st=>∃tm ct,st=⟨tm,[],ct,0⟩/\ex= .exit 0/\∃i e,af tm 0= .aB e i ((l.take i).map ab)/\i<=l.length/\l.take i=eb l) ?_
  ·have hlen:(l.map ab).length=l.length:=by simp
   rw [hlen];have jc:∃i e',aj P L 300 [.aB e l.length (l.map ab)] (.aB e' i ((l.take i).map ab))/\i<=l.length/\l.take i=eb l:=by
    unfold aj;rw [aI h];simp only [go_sem,lI];generalize hq:D P L (.loop [0] C7) _=q;obtain ⟨ex,st,rfl,tm,ct,rfl,rfl,i,e',h2,h3,h4⟩:=bq hq (key l.length) ⟨l.length,e,by simp only [go_sem,ya,av,xB],yv _,rfl,by rw [xB]⟩;simp only [go_sem,av,h2];exact ⟨i,e',rfl,h3,h4⟩
   obtain ⟨i,e',g1,g2,g3⟩:=jc;refine ⟨_,g1,?_,rfl⟩;rw [<-g3]
   have:=ma e' (l.take i)
   rwa [yy,xm g2] at this
  ·rintro k st ⟨i,e,rfl,hi,rfl,ht⟩
   cases i with
   | zero=>
    right
    simp only [go_sem,ya,C7,show ¬(0:Int)<((0:Nat):Int) by omega];exact ⟨_,_,rfl,by simp,_,_,rfl,rfl,0,e,by simp only [go_sem,ya],ue _,by simpa [eb] using ht⟩
   | succ i=>
    have LA:i<l.length:=by omega
    have eU:l.take (i+1)=l.take i++[l[i]]:=yW LA;have jj:vT i ((l.take (i+1)).map ab)=[AV.int .i64 l[i]]:=by
     rw [eU,xg,uA (by simp;omega)];rfl
    have oG:j0 1 i (.aB e (i+1) ((l.take (i+1)).map ab))=some (.cg [AV.int .i64 l[i]]):=by
     rw [SK e _ (by omega),yf,jj]
    by_cases h0:l[i]=0
    ·left
     have kj:∀tm x,df tm (i+1) (some x)=some i->fg [] (.sl 1) (.aB e (i+1) ((l.take (i+1)).map ab)) tm none (some x)=some (.aB (e&&yx i (i+1)) i ((l.take i).map ab)):=fun tm x hx=>by
      rw [ahz hx (by omega),<-tL,List.take_take,xm (by omega)]
     simp only [go_sem,ya,C7,show (0:Int)<((i+1:Nat):Int) by omega,show ((i+1:Nat):Int)-1=(i:Int) by omega,wrapN (n:=i) (by omega),oG,h0,kj,dJ];refine ⟨_,i,rfl,by omega,i,_,by simp only [go_sem,av]<;>rfl,by omega,rfl,?_⟩
     rw [<-ht,eU,h0,Im]
    ·right
     simp only [go_sem,ya,C7,show (0:Int)<((i+1:Nat):Int) by omega,show ((i+1:Nat):Int)-1=(i:Int) by omega,wrapN (n:=i) (by omega),oG,h0];refine ⟨_,_,rfl,by simp,_,_,rfl,rfl,i+1,e,by simp only [go_sem,ya],by omega,?_⟩;rw [<-ht,eU,Mv h0]
end
end
section
open Go (IntKind)
abbrev uc (n:Nat):AV:= .int .u64 (n:Int)
def bV (v:AV) (l:List Nat):Prop:=cW v (l.map uc)
section
variable {v:AV} {l:List Nat}
def bV.len (h:bV v l) {hp:Hp}:fE hp 1 v=some (.int .i64 (l.length:Nat)):=by
 have:=cW.len (hp:=hp) h
 grind
def bV.pu (h:bV v l):a7 v=true:=cW.pu h
def bV.an (h:bV v l) (n:Nat) {hp:Hp}:freeze (n+1) hp v=some (v,hp):=cW.an h n
def bV.shut (h:bV v l):VE.shut v=v:=cW.shut h
def bV.bQ (h:bV v l):VE.bQ v=v:=cW.bQ h
def bV.fO (h:bV v l) {hp:Hp}:result hp v=some v:=cW.fO h
def bV.one (h:bV v l):dt v=true:=cW.one h
def bV.aU (h:bV v l) {i:Nat} (hi:i<l.length):j0 1 i v=some (.cg (uc (l.getD i 0)::(l.map uc).drop (i+1))):=by
 have:=cW.aU h (i:=i) (by simpa using hi)
 grind
def mR (e:Bool) (l:List Nat):bV (.aB e l.length (l.map uc)) l:=by
 have:=ET e (l.map uc)
 rwa [List.length_map] at this
def zy:bV .aa []:=oW
end
def kz {hp:Hp} {ct id o:Nat} {v:Nat} {ex:Bool} {l:List Nat} (h:o<l.length):im hp ct id o 1 [.int .u64 (v:Int)] (some (.cells true true ex 1 (l.map uc)))=some (.ae [],a6 hp id (.cells true true ex 1 ((l.set o v).map uc)),ct):=by
 rw [qW (by rfl) (by simp;omega) (by rfl)]
 have:over o [uc v] (l.map uc)=(l.set o v).map uc:=by
  simp only [over,yI,yP,ye];rw [List.map_set,List.set_eq_take_append_cons_drop,yT (by simpa using h)]
  simp
 rw [this];rfl
def zU {l:List Nat} {o:Nat} (h:o<l.length):vT o (l.map uc)=uc (l.getD o 0)::vT (o+1) (l.map uc):=by
 rw [yS (by simpa using h)]
 grind
def avc (n:Nat):(yk n [AV.int .u64 0]).flatten=(yk n 0).map uc:=by simp_all
def DI (ct:Nat) {n:Nat} (h:n<=100000000000):pL ct 1 8 [.int .u64 0] (some n) (some n)=some (.aw ct 0 n,.cells true true true 1 ((yk n 0).map uc)):=by
 rw [Bh (sz:=1) (by omega) (by omega) (by rfl) (by rfl),avc];rfl
def BP (hp:Hp) {n:Nat} {l:List Nat} (h:l.length=n) (ex:Bool):jO 0 n (some (ex,1,l.map uc,hp))=some (.aB ex n (l.map uc),hp):=kI ex (by simp [h]) (by decide)
def ajr {n:Nat} (h:n<18446744073709551616):IntKind.wrap .u64 (n:Int)=n:=aAG (by omega) (by omega)
section
variable {P:aM} {L:Lib} {f:cD}
def kP {a b:Nat} (h:a<b):yR a b=true:=by simp_all
def Dg (h:L.pure 171=some nP) {x y c:Nat} (hx:x<18446744073709551616) (hy:y<18446744073709551616) (hc:c<=1):
  bP P L f 171 [uc x,uc y,uc c]=some (.ae [uc ((x+y+c)%18446744073709551616),uc ((x+y+c)/18446744073709551616)]):=by
 rw [jq h];show (bif yG c 1&&(yR x 18446744073709551616&&yR y 18446744073709551616) then _ else none)=_
 rw [yu hc,kP hx,kP hy];rfl
def Tp (h:L.pure 173=some Bb) {x y c:Nat} (hx:x<18446744073709551616) (hy:y<18446744073709551616) (hc:c<=1):
  bP P L f 173 [uc x,uc y,uc c]=some (.ae [uc ((x+18446744073709551616*2-y-c)%18446744073709551616),uc (if y+c<=x then 0 else 1)]):=by
 rw [jq h];show (bif yG c 1&&(yR x 18446744073709551616&&yR y 18446744073709551616) then _ else none)=_
 rw [yu hc,kP hx,kP hy];by_cases hh:y+c<=x
 ·rw [yu hh,yT hh];rfl
 ·have:yG (y+c) x=false:=by
   cases hq:yG (y+c) x with
   | false=>rfl
   | true=>exact absurd (yz hq) hh
  grind
def NK (h:L.pure 143=some r8) {x y:Nat} (hx:x<18446744073709551616) (hy:y<18446744073709551616):
  bP P L f 143 [uc x,uc y]=some (.ae [uc (x*y/18446744073709551616),uc (x*y%18446744073709551616)]):=by
 rw [jq h];show (bif yR x 18446744073709551616&&yR y 18446744073709551616 then _ else none)=_
 rw [kP hx,kP hy];rfl
def ad7 {hp:Hp} {tm:Env} {x:X} (hx:df tm 0 (some x)=some 0):fg hp (.sl 1) .aa tm none (some x)=some .aa:=by
 simp only [fg,hx,ff]
def BQ (h:Has P L 166 BA) {v:AV} {l:List Nat} (hv:bV v l) (hl:l.length<=100000000000):∃r,aj P L 166 [v] r/\bV r (ef l):=by
 rcases hv with ⟨rfl,h0⟩ | ⟨e,rfl⟩
 ·have:l=[]:=by simpa using h0
  subst this;refine ⟨.aa,?_,oW⟩;unfold aj;rw [aI h];simp only [go_sem,ya,BA,NI,CZ,av,show ¬(0:Int)<0 by decide,ad7,dJ]
 ·have key:=eP (P:=P) (L:=L) (live:=[0,3]) (a:=CZ)
   (I:=fun k st=>∃(i:Nat),st=⟨[(0,.aB e l.length (l.map uc)),(3,ab i)],[],0,0⟩/\i<=l.length/\i=k/\ef (l.take i)=ef l)
   (Q:=fun ex st=>∃tm ct,st=⟨tm,[],ct,0⟩/\ex= .exit 0/\∃i:Nat,af tm 0= .aB e l.length (l.map uc)/\af tm 3=ab i/\i<=l.length/\l.take i=ef l) ?_
  ·have hlen:(l.map uc).length=l.length:=by simp
   rw [hlen];have jc:∃i e',aj P L 166 [.aB e l.length (l.map uc)] (.aB e' i ((l.take i).map uc))/\i<=l.length/\l.take i=ef l:=by
    unfold aj;rw [aI h];simp only [go_sem,ya,BA];generalize hq:D P L (.loop [0,3] CZ) _=q;obtain ⟨ex,st,rfl,tm,ct,rfl,rfl,i,h2,h3,h4,h5⟩:=bq hq (key l.length) ⟨l.length,by simp only [go_sem,ya,av],yv _,rfl,by rw [xB]⟩;have kj:∀tm x,df tm l.length (some x)=some i->fg [] (.sl 1) (.aB e l.length (l.map uc)) tm none (some x)=some (.aB (e&&yx i l.length) i ((l.map uc).take i)):=fun tm x hx=>ahz hx h4
    simp only [go_sem,ya,av,h2,h3,kj,dJ];exact ⟨i,_,by rw [tL],h4,h5⟩
   obtain ⟨i,e',g1,g2,g3⟩:=jc;refine ⟨_,g1,?_⟩;rw [<-g3]
   have:=mR e' (l.take i)
   rwa [yy,xm g2] at this
  ·rintro k st ⟨i,rfl,hi,rfl,ht⟩
   cases i with
   | zero=>
    right
    simp only [go_sem,ya,CZ,show ¬(0:Int)<((0:Nat):Int) by omega];exact ⟨_,_,rfl,by simp,_,_,rfl,rfl,0,by simp only [go_sem,ya],by simp only [go_sem,ya],ue _,by simpa [ef] using ht⟩
   | succ i=>
    have LA:i<l.length:=by omega
    have eU:l.take (i+1)=l.take i++[l[i]]:=yW LA;have oG:=(mR e l).aU LA;rw [<-gd LA] at oG;by_cases h0:l[i]=0
    ·left
     simp only [go_sem,ya,CZ,show (0:Int)<((i+1:Nat):Int) by omega,show ((i+1:Nat):Int)-1=(i:Int) by omega,wrapN (n:=i) (by omega),oG,show ((l[i]:Nat):Int)=0 by omega];refine ⟨_,i,rfl,by omega,i,by simp only [go_sem,ya,av],by omega,rfl,?_⟩;rw [<-ht,eU,h0,Mw]
    ·right
     simp only [go_sem,ya,CZ,show (0:Int)<((i+1:Nat):Int) by omega,show ((i+1:Nat):Int)-1=(i:Int) by omega,wrapN (n:=i) (by omega),oG,show ¬((l[i]:Nat):Int)=0 by omega];refine ⟨_,_,rfl,by simp,_,_,rfl,rfl,i+1,by simp only [go_sem,ya],by simp only [go_sem,ya],by omega,?_⟩;rw [<-ht,eU,EG h0]
end
end
section
open Go (IntKind)
def MA (p b s:Nat):p*(s%b)+p*b*(s/b)=p*s:=by
 rw [xp,<-xG,tx]
def aqV {b:Nat} {x y out:List Nat} {i c:Nat} (hi:i<out.length) (hz:out.getD i 0=0) (hv:bv b out+b^i*c=bv b (x.take i)+bv b (y.take i)):
  bv b (out.set i ((x.getD i 0+y.getD i 0+c)%b))+b^(i+1)*((x.getD i 0+y.getD i 0+c)/b)=bv b (x.take (i+1))+bv b (y.take (i+1)):=by
 have h1:=nR (b:=b) (x:=(x.getD i 0+y.getD i 0+c)%b) hi;have h2:=MA (b^i) b (x.getD i 0+y.getD i 0+c);rw [hz,xH,y5] at h1;rw [jt,jt,xd,h1]
 grind
def aqW {b:Nat} {x y out:List Nat} {i c z c':Nat} (hi:i<out.length) (hz:out.getD i 0=0) (hs:z+y.getD i 0+c=x.getD i 0+b*c') (hv:bv b out+bv b (y.take i)=bv b (x.take i)+b^i*c):
  bv b (out.set i z)+bv b (y.take (i+1))=bv b (x.take (i+1))+b^(i+1)*c':=by
 have h1:=nR (b:=b) (x:=z) hi;rw [hz,xH,y5] at h1;rw [jt,jt,xd,h1]
 grind
section
variable {P:aM} {L:Lib}
def ak2 (h:Has P L 158 FO) {v w:AV} {x y:List Nat} (hv:bV v x) (hw:bV w y) (hx:lo 18446744073709551616 x) (hy:lo 18446744073709551616 y) (nx:gW x) (ny:gW y) (lx:x.length<=100000000000) (ly:y.length<=100000000000):
  aj P L 158 [v,w] (ab (dV (bv 18446744073709551616 x) (bv 18446744073709551616 y))):=by
 unfold aj;rw [aI h];by_cases hlen:x.length=y.length
 ·have key:=eP (P:=P) (L:=L) (live:=[0,1,5]) (a:=CY)
   (I:=fun k st=>∃j:Nat,st=⟨[(0,v),(1,w),(5,ab ((j:Int)-1))],[],0,0⟩/\j<=x.length/\j=k/\x.drop j=y.drop j)
   (Q:=fun ex st=>∃tm ct,st=⟨tm,[],ct,0⟩/\((ex= .ret/\af tm 4=ab (dV (bv 18446744073709551616 x) (bv 18446744073709551616 y)))\/(ex= .exit 0/\x=y))) ?_
  ·simp only [go_sem,ya,FO,hv.len,hw.len,show (x.length:Int)=y.length by omega];generalize hq:D P L (.loop [0,1,5] CY) _=q;obtain ⟨ex,st,rfl,tm,ct,rfl,h2⟩:=bq hq (key x.length) ⟨x.length,by
    rw [wrap64 (by omega) (by omega),hlen]
    simp only [go_sem,ya,av,aq hv.pu,au _ hv.pu,aq hw.pu,au _ hw.pu]<;>rfl,yv _,rfl,by rw [xh (yv _),xh (by omega)]⟩
   rcases h2 with ⟨rfl,h2⟩ | ⟨rfl,h2⟩
   ·simp only [go_sem,h2]
   ·simp only [go_sem,av];subst h2;simp [dV]
  ·rintro k st ⟨j,rfl,hj,rfl,he⟩
   cases j with
   | zero=>
    right
    simp only [go_sem,ya,CY,show ¬(0:Int)<=((0:Nat):Int)-1 by omega];exact ⟨_,_,rfl,by simp,_,_,rfl,.inr ⟨rfl,by simpa using he⟩⟩
   | succ i=>
    have h1:i<x.length:=by omega
    have h2:i<y.length:=by omega
    have GJ:=aho hx h1 h2 he;have aZ:=aho hy h2 h1 he.symm;by_cases c0:x.getD i 0=y.getD i 0
    ·left
     simp only [go_sem,ya,CY,show ((i+1:Nat):Int)-1=(i:Int) by omega,show (0:Int)<=(i:Int) by omega,hv.aU h1,hw.aU h2,c0];refine ⟨_,i,rfl,by omega,i,?_,by omega,rfl,?_⟩
     ·rw [wrap64 (by omega) (by omega)];simp only [go_sem,ya,av,aq hv.pu,au _ hv.pu,aq hw.pu,au _ hw.pu]<;>rfl
     ·rw [yS h1,yS h2,he,gd h1,gd h2,c0]
    ·by_cases c1:x.getD i 0<y.getD i 0
     ·right
      simp only [go_sem,ya,CY,show ((i+1:Nat):Int)-1=(i:Int) by omega,show (0:Int)<=(i:Int) by omega,hv.aU h1,hw.aU h2,show ¬((x.getD i 0:Nat):Int)=(y.getD i 0:Nat) by omega,show ((x.getD i 0:Nat):Int)<(y.getD i 0:Nat) by omega];refine ⟨_,_,rfl,by simp,_,_,rfl,.inl ⟨rfl,?_⟩⟩;simp only [go_sem];unfold dV;rw [yT (GJ c1)]
     ·right
      simp only [go_sem,ya,CY,show ((i+1:Nat):Int)-1=(i:Int) by omega,show (0:Int)<=(i:Int) by omega,hv.aU h1,hw.aU h2,show ¬((x.getD i 0:Nat):Int)=(y.getD i 0:Nat) by omega,show ¬((x.getD i 0:Nat):Int)<(y.getD i 0:Nat) by omega];refine ⟨_,_,rfl,by simp,_,_,rfl,.inl ⟨rfl,?_⟩⟩;simp only [go_sem];unfold dV;rw [yD (by omega),yT (by omega)]
 ·by_cases c1:x.length<y.length
  ·have:=Nl (b:=18446744073709551616) (by decide) hx ny c1
   simp only [go_sem,ya,FO,hv.len,hw.len,show ¬(x.length:Int)=y.length by omega,show (x.length:Int)<y.length by omega];unfold dV;rw [yT this]
  ·have:=Nl (b:=18446744073709551616) (by decide) hy nx (show y.length<x.length by omega)
   simp only [go_sem,ya,FO,hv.len,hw.len,show ¬(x.length:Int)=y.length by omega,show ¬(x.length:Int)<y.length by omega];unfold dV;rw [yD (by omega),yT this]
def aiJ (gT:L.pure 171=some nP) {v w:AV} {x y:List Nat} (hv:bV v x) (hw:bV w y) (hx:lo 18446744073709551616 x) (hy:lo 18446744073709551616 y) (lx:x.length<=99999999999) (ly:y.length<=x.length) {n:Nat} (hn:n=x.length+1):
  ∀k s,(∃(i c:Nat) (out:List Nat),aJ [0,1,5,6,21,22] s=⟨[(0,v),(1,w),(5,.aw 0 0 n),(6,uc c),(21,ab x.length),(22,ab i)],[(0,.cells true true true 1 (out.map uc))],1,0⟩/\i+k=x.length/\out.length=n/\c<=1/\lo 18446744073709551616 out/\
    bv 18446744073709551616 out+18446744073709551616^i*c=bv 18446744073709551616 (x.take i)+bv 18446744073709551616 (y.take i)/\(∀m,i<=m->out.getD m 0=0))->
   ∃ex s',D P L (.loop [0,1,5,6,21,22] CX) s=some (ex,s')/\∃tm c out,s'=⟨tm,[(0,.cells true true true 1 (out.map uc))],1,0⟩/\ex= .exit 0/\af tm 0=v/\af tm 5= .aw 0 0 n/\af tm 6=uc c/\out.length=n/\c<=1/\lo 18446744073709551616 out/\
    bv 18446744073709551616 out+18446744073709551616^x.length*c=bv 18446744073709551616 x+bv 18446744073709551616 y/\out.getD x.length 0=0:=by
 intro dq sq;generalize a8:aJ [0,1,5,6,21,22] sq=s0;revert a8 s0 sq dq;apply cY;rintro k s ⟨i,c,out,rfl,hk,hlen,hc,bk,aT,gK⟩;by_cases hi:i<x.length
 ·left
  have hz:=gK i (yv _);have kQ:=aqV (x:=x) (y:=y) (show i<out.length by omega) hz aT;have gx:=ia (show 0<18446744073709551616 by decide) hx i;have gy:=ia (show 0<18446744073709551616 by decide) hy i;have e1:=Dg (P:=P) (f:=D P L) gT gx gy hc;have ex:=hv.aU hi;generalize x.getD i 0=p at*
  by_cases hj:i<y.length
  ·have ey:=hw.aU hj;generalize y.getD i 0=q at*
   simp only [go_sem,ya,yf,CX,hw.len,show (i:Int)<x.length by omega,show (i:Int)<y.length by omega,ex,ey,e1,bN 0 0 (show i<n by omega),ye,kz (l:=out) (o:=i) (by omega)]
   refine ⟨_,k-1,rfl,by omega,i+1,(p+q+c)/18446744073709551616,_,?_,by omega,by simp [hlen],by omega,mf bk (x:=(p+q+c)%18446744073709551616) (i:=i) (by omega),kQ,fun m hm=>?_⟩
   ·rw [wrap64 (by omega) (by omega)];simp only [go_sem,ya,yb,av,aq hv.pu,au _ hv.pu,aq hw.pu,au _ hw.pu]<;>rfl
   ·rw [pg (by omega)];exact gK m (by omega)
  ·have iS:y.getD i 0=0:=Tj (by omega);rw [iS] at kQ e1;rw [show (uc 0)=AV.int .u64 0 from rfl] at e1
   simp only [go_sem,ya,yf,CX,hw.len,show (i:Int)<x.length by omega,show ¬(i:Int)<y.length by omega,ex,e1,bN 0 0 (show i<n by omega),ye,kz (l:=out) (o:=i) (by omega)]
   refine ⟨_,k-1,rfl,by omega,i+1,(p+0+c)/18446744073709551616,_,?_,by omega,by simp [hlen],by omega,mf bk (x:=(p+0+c)%18446744073709551616) (i:=i) (by omega),kQ,fun m hm=>?_⟩
   ·rw [wrap64 (by omega) (by omega)];simp only [go_sem,ya,yb,av,aq hv.pu,au _ hv.pu,aq hw.pu,au _ hw.pu]<;>rfl
   ·rw [pg (by omega)];exact gK m (by omega)
 ·right
  have:i=x.length:=by omega
  subst this;rw [xB,yC ly] at aT;simp only [go_sem,ya,CX,show ¬(x.length:Int)<x.length by omega];exact ⟨_,_,rfl,by simp,_,c,out,rfl,rfl,by simp only [go_sem,ya],by simp only [go_sem,ya],by simp only [go_sem,ya],hlen,hc,bk,aT,gK _ (yv _)⟩
def aBT (h:Has P L 157 Kc) (mv:Has P L 166 BA) (gT:L.pure 171=some nP) {v w:AV} {x y:List Nat} (hv:bV v x) (hw:bV w y) (hx:lo 18446744073709551616 x) (hy:lo 18446744073709551616 y) (lx:x.length<=99999999999) (ly:y.length<=99999999999):
  ∃r out,aj P L 157 [v,w] r/\bV r out/\lo 18446744073709551616 out/\gW out/\bv 18446744073709551616 out=bv 18446744073709551616 x+bv 18446744073709551616 y:=by
 have fin:∀{x y o:List Nat} {n c:Nat},n=x.length+1->x.length<=99999999999->o.length=n->c<=1->lo 18446744073709551616 o->bv 18446744073709551616 o+18446744073709551616^x.length*c=bv 18446744073709551616 x+bv 18446744073709551616 y->o.getD x.length 0=0->
   ∃r,bP P L (D P L) 166 [.aB true n ((o.set x.length c).map uc)]=some r/\bV r (ef (o.set x.length c))/\lo 18446744073709551616 (ef (o.set x.length c))/\gW (ef (o.set x.length c))/\bv 18446744073709551616 (ef (o.set x.length c))=bv 18446744073709551616 x+bv 18446744073709551616 y:=by
  intro x y o n c hn lx hlen hc bk aT hz;have a6:=nR (b:=18446744073709551616) (l:=o) (i:=x.length) (x:=c) (by omega);rw [hz,xH,y5,aT] at a6;have aBU:lo 18446744073709551616 (o.set x.length c):=mf bk (by omega);have hf:=mR true (o.set x.length c);rw [List.length_set,hlen] at hf;obtain ⟨r,e1,hr⟩:=BQ mv hf (by simp;omega);exact ⟨r,e1,hr,A2 aBU,A1 _,by rw [A0];exact a6⟩
 by_cases hl:x.length<y.length
 ·obtain ⟨n,hn⟩:∃n,n=y.length+1:=⟨_,rfl⟩;unfold aj;rw [aI h]
  simp only [go_sem,ya,yb,Kc,hv.len,hw.len,show (x.length:Int)<y.length by omega,wrapN (n:=n) (by omega),show (y.length:Int)+1=((y.length+1:Nat):Int) from rfl,<-hn,DI (n:=n) _ (by omega)];generalize hq:D P L (.loop [0,1,5,6,21,22] CX) _=q;obtain ⟨ex,s,rfl,tm,c,o,rfl,rfl,t0,t5,t6,hlen,hc,bk,aT,hz⟩:=bq hq (aiJ (P:=P) (L:=L) gT hw hv hy hx ly (by omega) hn y.length)
   ⟨0,0,yk n 0,by simp only [go_sem,ya,yb,av,aq hv.pu,au _ hv.pu,aq hw.pu,au _ hw.pu]<;>rfl,by omega,by simp,by omega,Fu (by decide) n,by rw [Fv];simp [bv],fun m _=>CQ n m⟩
  obtain ⟨r,e1,hr,f1,f2,f3⟩:=fin hn ly hlen hc bk aT hz;refine ⟨r,_,?_,hr,f1,f2,by rw [f3];omega⟩
  simp only [go_sem,ya,yf,av,aq hw.pu,au _ hw.pu,hw.len,t0,t5,t6,bN 0 0 (show y.length<n by omega),ye,kz (l:=o) (o:=y.length) (by omega)]
  simp only [go_sem,BP _ (n:=n) (l:=o.set y.length c) (by simp [hlen]) true,e1,hr.shut,hr.fO]
 ·obtain ⟨n,hn⟩:∃n,n=x.length+1:=⟨_,rfl⟩;unfold aj;rw [aI h]
  simp only [go_sem,ya,yb,Kc,hv.len,hw.len,show ¬(x.length:Int)<y.length by omega,wrapN (n:=n) (by omega),show (x.length:Int)+1=((x.length+1:Nat):Int) from rfl,<-hn,DI (n:=n) _ (by omega)];generalize hq:D P L (.loop [0,1,5,6,21,22] CX) _=q;obtain ⟨ex,s,rfl,tm,c,o,rfl,rfl,t0,t5,t6,hlen,hc,bk,aT,hz⟩:=bq hq (aiJ (P:=P) (L:=L) gT hv hw hx hy lx (by omega) hn x.length)
   ⟨0,0,yk n 0,by simp only [go_sem,ya,yb,av,aq hv.pu,au _ hv.pu,aq hw.pu,au _ hw.pu]<;>rfl,by omega,by simp,by omega,Fu (by decide) n,by rw [Fv];simp [bv],fun m _=>CQ n m⟩
  obtain ⟨r,e1,hr,f1,f2,f3⟩:=fin hn lx hlen hc bk aT hz;refine ⟨r,_,?_,hr,f1,f2,f3⟩
  simp only [go_sem,ya,yf,av,aq hv.pu,au _ hv.pu,hv.len,t0,t5,t6,bN 0 0 (show x.length<n by omega),ye,kz (l:=o) (o:=x.length) (by omega)]
  simp only [go_sem,BP _ (n:=n) (l:=o.set x.length c) (by simp [hlen]) true,e1,hr.shut,hr.fO]
end
end
section
open Go (IntKind)
def aqX {b:Nat} {out:List Nat} {p j c t o x y Y bo ba:Nat} (ho:o=out.getD j 0) (hj:j<out.length) (ht:t=o+x*y+c) (hv:bo+p*c=ba+p*(x*Y)) (hb:bo=bv b out) (hp:p=b^j):
  bv b (out.set j (t%b))+p*b*(t/b)=ba+p*(x*(Y+0))+p*(x*y):=by
 have h1:=nR (b:=b) (x:=t%b) hj;have h2:=MA p b t
 grind
section
variable {P:aM} {L:Lib}
def Sr {x y c:Nat} (hx:x<18446744073709551616) (hy:y<18446744073709551616) (hc:c<=1):
  (x+18446744073709551616*2-y-c)%18446744073709551616+y+c=x+18446744073709551616*(if y+c<=x then 0 else 1):=by grind
def ayy (sK:L.pure 173=some Bb) {v w:AV} {x y:List Nat} (hv:bV v x) (hw:bV w y) (hx:lo 18446744073709551616 x) (hy:lo 18446744073709551616 y) (lx:x.length<=99999999999) (ly:y.length<=x.length) (hle:bv 18446744073709551616 y<=bv 18446744073709551616 x) {n:Nat} (hn:n=x.length):
  ∀k s,(∃(i c:Nat) (out:List Nat),aJ [0,1,5,6,13,14] s=⟨[(0,v),(1,w),(5,.aw 0 0 n),(6,uc c),(13,ab x.length),(14,ab i)],[(0,.cells true true true 1 (out.map uc))],1,0⟩/\i+k=x.length/\out.length=n/\c<=1/\lo 18446744073709551616 out/\
    bv 18446744073709551616 out+bv 18446744073709551616 (y.take i)=bv 18446744073709551616 (x.take i)+18446744073709551616^i*c/\(∀m,i<=m->out.getD m 0=0))->
   ∃ex s',D P L (.loop [0,1,5,6,13,14] E6) s=some (ex,s')/\∃tm out,s'=⟨tm,[(0,.cells true true true 1 (out.map uc))],1,0⟩/\ex= .exit 0/\af tm 5= .aw 0 0 n/\out.length=n/\lo 18446744073709551616 out/\
    bv 18446744073709551616 out+bv 18446744073709551616 y=bv 18446744073709551616 x:=by
 intro dq sq;generalize a8:aJ [0,1,5,6,13,14] sq=s0;revert a8 s0 sq dq;apply cY;rintro k s ⟨i,c,out,rfl,hk,hlen,hc,bk,aT,gK⟩;by_cases hi:i<x.length
 ·left
  have hz:=gK i (yv _);have gx:=ia (show 0<18446744073709551616 by decide) hx i;have gy:=ia (show 0<18446744073709551616 by decide) hy i;have mF:=Sr gx gy hc;have kQ:=aqW (x:=x) (y:=y) (show i<out.length by omega) hz mF aT;have e1:=Tp (P:=P) (f:=D P L) sK gx gy hc;have ex:=hv.aU hi;generalize x.getD i 0=p at*
  have qd:(if y.getD i 0+c<=p then 0 else 1)<=1:=by split<;>omega
  by_cases hj:i<y.length
  ·have ey:=hw.aU hj;generalize y.getD i 0=q at*
   generalize (if q+c<=p then 0 else 1)=c1 at*
   simp only [go_sem,ya,xn,yf,E6,hw.len,show (i:Int)<x.length by omega,show (i:Int)<y.length by omega,ex,ey,e1,bN 0 0 (show i<n by omega),ye,kz (l:=out) (o:=i) (by omega)]
   refine ⟨_,k-1,rfl,by omega,i+1,c1,_,?_,by omega,by simp [hlen],qd,mf bk (x:=(p+18446744073709551616*2-q-c)%18446744073709551616) (i:=i) (by omega),kQ,fun m hm=>?_⟩
   ·rw [wrap64 (by omega) (by omega)];simp only [go_sem,ya,yb,xn,av,aq hv.pu,au _ hv.pu,aq hw.pu,au _ hw.pu]<;>rfl
   ·rw [pg (by omega)];exact gK m (by omega)
  ·have iS:y.getD i 0=0:=Tj (by omega);rw [iS] at kQ e1 qd;rw [show (uc 0)=AV.int .u64 0 from rfl] at e1;generalize (if 0+c<=p then 0 else 1)=c1 at*
   simp only [go_sem,ya,xn,yf,E6,hw.len,show (i:Int)<x.length by omega,show ¬(i:Int)<y.length by omega,ex,e1,bN 0 0 (show i<n by omega),ye,kz (l:=out) (o:=i) (by omega)]
   refine ⟨_,k-1,rfl,by omega,i+1,c1,_,?_,by omega,by simp [hlen],qd,mf bk (x:=(p+18446744073709551616*2-0-c)%18446744073709551616) (i:=i) (by omega),kQ,fun m hm=>?_⟩
   ·rw [wrap64 (by omega) (by omega)];simp only [go_sem,ya,yb,xn,av,aq hv.pu,au _ hv.pu,aq hw.pu,au _ hw.pu]<;>rfl
   ·rw [pg (by omega)];exact gK m (by omega)
 ·right
  have:i=x.length:=by omega
  subst this;rw [xB,yC ly] at aT;have aZ:=mj bk;rw [hlen,hn] at aZ;simp only [go_sem,ya,E6,show ¬(x.length:Int)<x.length by omega];refine ⟨_,_,rfl,by simp,_,out,rfl,rfl,by simp only [go_sem,ya],hlen,bk,?_⟩;rcases (show c=0\/c=1 by omega) with rfl | rfl
  ·omega
  ·omega
def ak3 (h:Has P L 159 Ov) (mv:Has P L 166 BA) (sK:L.pure 173=some Bb) {v w:AV} {x y:List Nat} (hv:bV v x) (hw:bV w y) (hx:lo 18446744073709551616 x) (hy:lo 18446744073709551616 y) (ny:gW y) (lx:x.length<=99999999999) (hle:bv 18446744073709551616 y<=bv 18446744073709551616 x):
  ∃r out,aj P L 159 [v,w] r/\bV r out/\lo 18446744073709551616 out/\gW out/\bv 18446744073709551616 out+bv 18446744073709551616 y=bv 18446744073709551616 x:=by
 have ly:y.length<=x.length:=by
  by_cases hh:x.length<y.length
  ·have:=Nl (b:=18446744073709551616) (by decide) hx ny hh
   omega
  ·omega
 obtain ⟨n,hn⟩:∃n,n=x.length:=⟨_,rfl⟩;unfold aj;rw [aI h]
 simp only [go_sem,ya,yb,Ov,hv.len,<-hn,DI (n:=n) _ (by omega)];generalize hq:D P L (.loop [0,1,5,6,13,14] E6) _=q;obtain ⟨ex,s,rfl,tm,o,rfl,rfl,t5,hlen,bk,aT⟩:=bq hq (ayy (P:=P) (L:=L) sK hv hw hx hy lx ly hle hn x.length)
  ⟨0,0,yk n 0,by rw [hn];simp only [go_sem,ya,yb,av,aq hv.pu,au _ hv.pu,aq hw.pu,au _ hw.pu]<;>rfl,by omega,by simp,by omega,Fu (by decide) n,by rw [Fv];simp [bv],fun m _=>CQ n m⟩
 have hf:=mR true o;rw [hlen] at hf;obtain ⟨r,e1,hr⟩:=BQ mv hf (by omega);refine ⟨r,_,?_,hr,A2 bk,A1 _,by rw [A0];exact aT⟩
 simp only [go_sem,yb,av,t5,BP _ (n:=n) (l:=o) hlen true,e1,hr.shut,hr.fO]
def asZ {x y o c:Nat} (hx:x<18446744073709551616) (hy:y<18446744073709551616) (ho:o<18446744073709551616) (hc:c<18446744073709551616):
  o+x*y+c<18446744073709551616*18446744073709551616/\
  ((x*y%18446744073709551616+o+0)%18446744073709551616+c+0)%18446744073709551616=(o+x*y+c)%18446744073709551616/\
  x*y/18446744073709551616+(x*y%18446744073709551616+o+0)/18446744073709551616+((x*y%18446744073709551616+o+0)%18446744073709551616+c+0)/18446744073709551616=(o+x*y+c)/18446744073709551616:=by
 have h1:=wu (show x<=18446744073709551615 by omega) (show y<=18446744073709551615 by omega)
 grind
def ayz (mw:L.pure 143=some r8) (gT:L.pure 171=some nP) {v w:AV} {x y:List Nat} (hv:bV v x) (hw:bV w y) (hx:lo 18446744073709551616 x) (hy:lo 18446744073709551616 y) (lx:x.length<=49999999999) (ly:y.length<=49999999999) {n i:Nat} (hn:n=x.length+y.length) (hi:i<x.length) {a:Nat} (ha:a<18446744073709551616) {bo:Nat}:
  ∀k s,(∃(j c:Nat) (out:List Nat),aJ [1,5,6,7,8,20,21,22,27,28,29] s=⟨[(1,w),(5,.aw 0 0 n),(6,ab i),(7,uc a),(8,uc c),(20,v),(21,ab x.length),(22,ab i),(27,w),(28,ab y.length),(29,ab j)],[(0,.cells true true true 1 (out.map uc))],1,0⟩/\j+k=y.length/\out.length=n/\c<18446744073709551616/\lo 18446744073709551616 out/\
    bv 18446744073709551616 out+18446744073709551616^(i+j)*c=bo+18446744073709551616^i*(a*bv 18446744073709551616 (y.take j))/\(∀m,i+y.length<=m->out.getD m 0=0))->
   ∃ex s',D P L (.loop [1,5,6,7,8,20,21,22,27,28,29] Jb) s=some (ex,s')/\∃tm c out,s'=⟨tm,[(0,.cells true true true 1 (out.map uc))],1,0⟩/\ex= .exit 2/\af tm 1=w/\af tm 5= .aw 0 0 n/\af tm 6=ab i/\af tm 8=uc c/\af tm 20=v/\af tm 21=ab x.length/\af tm 22=ab i/\out.length=n/\c<18446744073709551616/\lo 18446744073709551616 out/\
    bv 18446744073709551616 out+18446744073709551616^(i+y.length)*c=bo+18446744073709551616^i*(a*bv 18446744073709551616 y)/\(∀m,i+y.length<=m->out.getD m 0=0):=by
 intro dq sq;generalize a8:aJ [1,5,6,7,8,20,21,22,27,28,29] sq=s0;revert a8 s0 sq dq;apply cY;rintro k s ⟨j,c,out,rfl,hk,hlen,hc,bk,aT,gK⟩;by_cases hj:j<y.length
 ·left
  have rE:(0:Nat)<18446744073709551616:=by decide
  have gy:=ia rE hy j;have nC:=ia rE bk (i+j);have ey:=hw.aU hj;have e3:=zU (l:=out) (o:=i+j) (by omega);obtain ⟨q,hq⟩:∃q,q=y.getD j 0:=⟨_,rfl⟩;obtain ⟨o,ho⟩:∃o,o=out.getD (i+j) 0:=⟨_,rfl⟩;rw [<-hq] at gy ey;rw [<-ho] at nC e3;obtain ⟨m1,m2,m3⟩:=asZ ha gy nC hc;have hpy:a*q<18446744073709551616*18446744073709551616:=by omega
  have f1:=NK (P:=P) (f:=D P L) mw ha gy;have f2:=Dg (P:=P) (f:=D P L) gT (x:=a*q%18446744073709551616) (y:=o) (c:=0) (xE _ rE) nC (by omega);have f3:=Dg (P:=P) (f:=D P L) gT (x:=(a*q%18446744073709551616+o+0)%18446744073709551616) (y:=c) (c:=0) (xE _ rE) hc (by omega);obtain ⟨t,ht⟩:∃t,t=o+a*q+c:=⟨_,rfl⟩;have kQ:=aqX (b:=18446744073709551616) (out:=out) (p:=18446744073709551616^(i+j)) (j:=i+j) (c:=c) (t:=t) (x:=a) (y:=q) (Y:=0) (ba:=bo+18446744073709551616^i*(a*bv 18446744073709551616 (y.take j))) ho (by omega) ht (by simpa using aT) rfl rfl;rw [m2,<-ht] at f3;rw [<-ht] at m1 m3;obtain ⟨d1,jd⟩:∃d,d=(a*q%18446744073709551616+o+0)/18446744073709551616:=⟨_,rfl⟩;obtain ⟨d2,il⟩:∃d,d=((a*q%18446744073709551616+o+0)%18446744073709551616+c+0)/18446744073709551616:=⟨_,rfl⟩;rw [<-jd] at f2 m3;rw [<-il] at f3 m3
  rw [show (uc 0)=AV.int .u64 0 from rfl] at f2 f3;obtain ⟨h1,je⟩:∃d,d=a*q/18446744073709551616:=⟨_,rfl⟩;rw [<-je] at f1 m3;have nv:h1+d1<18446744073709551616:=by omega
  have Ay:h1+d1+d2<18446744073709551616:=by omega
  simp only [go_sem,ya,yf,Jb,show (j:Int)<y.length by omega,ey,f1,wrapN (n:=i+j) (by omega),show (i:Int)+(j:Int)=((i+j:Nat):Int) from rfl,bN 0 0 (show i+j<n by omega),ye,e3,f2,f3,show (h1:Int)+(d1:Int)=((h1+d1:Nat):Int) from rfl,ajr nv,show ((h1+d1:Nat):Int)+(d2:Int)=((h1+d1+d2:Nat):Int) from rfl,ajr Ay,kz (l:=out) (o:=i+j) (by omega)]
  refine ⟨_,k-1,rfl,by omega,j+1,h1+d1+d2,_,?_,by omega,by simp [hlen],Ay,mf bk (x:=t%18446744073709551616) (i:=i+j) (xE _ rE),?_,fun m hm=>?_⟩
  ·rw [wrap64 (by omega) (by omega)];simp only [go_sem,ya,yb,av,aq hv.pu,au _ hv.pu,aq hw.pu,au _ hw.pu]<;>rfl
  ·rw [m3,show i+(j+1)=i+j+1 by omega,xd,jt,<-hq,xG a,xG (18446744073709551616^i)];simp only [xH,y5] at kQ;rw [kQ,wL,<-Nat.add_assoc,xp (18446744073709551616^i),<-xp a,xJ a (18446744073709551616^j),xp]
  ·rw [pg (by omega)];exact gK m hm
 ·right
  have:j=y.length:=by omega
  subst this;rw [xB] at aT;simp only [go_sem,ya,Jb,show ¬(y.length:Int)<y.length by omega];exact ⟨_,_,rfl,by simp,_,c,out,rfl,rfl,by simp only [go_sem,ya],by simp only [go_sem,ya],by simp only [go_sem,ya],by simp only [go_sem,ya],by simp only [go_sem,ya],by simp only [go_sem,ya],by simp only [go_sem,ya],hlen,hc,bk,aT,gK⟩
def ayA (mw:L.pure 143=some r8) (gT:L.pure 171=some nP) {v w:AV} {x y:List Nat} (hv:bV v x) (hw:bV w y) (hx:lo 18446744073709551616 x) (hy:lo 18446744073709551616 y) (lx:x.length<=49999999999) (ly:y.length<=49999999999) {n:Nat} (hn:n=x.length+y.length):
  ∀k s,(∃(i:Nat) (out:List Nat),aJ [1,5,20,21,22] s=⟨[(1,w),(5,.aw 0 0 n),(20,v),(21,ab x.length),(22,ab i)],[(0,.cells true true true 1 (out.map uc))],1,0⟩/\i+k=x.length/\out.length=n/\lo 18446744073709551616 out/\
    bv 18446744073709551616 out=bv 18446744073709551616 (x.take i)*bv 18446744073709551616 y/\(∀m,i+y.length<=m->out.getD m 0=0))->
   ∃ex s',D P L (.loop [1,5,20,21,22] Jc) s=some (ex,s')/\∃tm out,s'=⟨tm,[(0,.cells true true true 1 (out.map uc))],1,0⟩/\ex= .exit 0/\af tm 5= .aw 0 0 n/\out.length=n/\lo 18446744073709551616 out/\
    bv 18446744073709551616 out=bv 18446744073709551616 x*bv 18446744073709551616 y:=by
 intro dq sq;generalize a8:aJ [1,5,20,21,22] sq=s0;revert a8 s0 sq dq;apply cY;rintro k s ⟨i,out,rfl,hk,hlen,bk,aT,gK⟩;by_cases hi:i<x.length
 ·left
  have gx:=ia (show 0<18446744073709551616 by decide) hx i;have ex:=hv.aU hi;obtain ⟨a,ha⟩:∃a,a=x.getD i 0:=⟨_,rfl⟩;simp only [go_sem,ya,Jc,hw.len,show (i:Int)<x.length by omega,ex];generalize hq:D P L (.loop [1,5,6,7,8,20,21,22,27,28,29] Jb) _=q;obtain ⟨ex,s,rfl,tm,c,sL,rfl,rfl,t1,t5,t6,t8,t20,t21,t22,TV,hc,aBV,TW,KM⟩:=bq hq (ayz (P:=P) (L:=L) mw gT hv hw hx hy lx ly hn hi gx (bo:=bv 18446744073709551616 out) y.length)
   ⟨0,0,out,by simp only [go_sem,ya,yb,av,aq hv.pu,au _ hv.pu,aq hw.pu,au _ hw.pu]<;>rfl,by omega,hlen,by decide,bk,by simp [bv],gK⟩
  have hz:sL.getD (i+y.length) 0=0:=KM _ (yv _);have a6:=nR (b:=18446744073709551616) (l:=sL) (i:=i+y.length) (x:=c) (by omega);rw [hz,xH,y5,TW] at a6
  simp only [go_sem,ya,yf,av,t1,t5,t6,t8,t20,t21,t22,hw.len,aq hv.pu,au _ hv.pu,aq hw.pu,au _ hw.pu,wrapN (n:=i+y.length) (by omega),show (i:Int)+(y.length:Int)=((i+y.length:Nat):Int) from rfl,bN 0 0 (show i+y.length<n by omega),ye,kz (l:=sL) (o:=i+y.length) (by omega)];refine ⟨_,k-1,rfl,by omega,i+1,sL.set (i+y.length) c,?_,by omega,by simp [TV],mf aBV hc,?_,fun m hm=>?_⟩
  ·rw [wrap64 (by omega) (by omega)];simp only [go_sem,ya,yb,av,aq hv.pu,au _ hv.pu,aq hw.pu,au _ hw.pu]<;>rfl
  ·rw [a6,aT,jt,wE,<-ha,xp]
  ·rw [pg (by omega)];exact KM m (by omega)
 ·right
  have:i=x.length:=by omega
  subst this;rw [xB] at aT;simp only [go_sem,ya,Jc,show ¬(x.length:Int)<x.length by omega];exact ⟨_,_,rfl,by simp,_,out,rfl,rfl,by simp only [go_sem,ya],hlen,bk,aT⟩
def aBW (h:Has P L 144 Oq) (mv:Has P L 166 BA) (mw:L.pure 143=some r8) (gT:L.pure 171=some nP) {v w:AV} {x y:List Nat} (hv:bV v x) (hw:bV w y) (hx:lo 18446744073709551616 x) (hy:lo 18446744073709551616 y) (lx:x.length<=49999999999) (ly:y.length<=49999999999):
  ∃r out,aj P L 144 [v,w] r/\bV r out/\lo 18446744073709551616 out/\gW out/\bv 18446744073709551616 out=bv 18446744073709551616 x*bv 18446744073709551616 y:=by
 obtain ⟨n,hn⟩:∃n,n=x.length+y.length:=⟨_,rfl⟩;unfold aj;rw [aI h]
 simp only [go_sem,ya,yb,Oq,hv.len,hw.len,wrapN (n:=n) (by omega),show (x.length:Int)+(y.length:Int)=((x.length+y.length:Nat):Int) from rfl,<-hn,DI (n:=n) _ (by omega)];generalize hq:D P L (.loop [1,5,20,21,22] Jc) _=q;obtain ⟨ex,s,rfl,tm,o,rfl,rfl,t5,hlen,bk,aT⟩:=bq hq (ayA (P:=P) (L:=L) mw gT hv hw hx hy lx ly hn x.length)
  ⟨0,yk n 0,by simp only [go_sem,ya,yb,av,aq hv.pu,au _ hv.pu,aq hw.pu,au _ hw.pu]<;>rfl,by omega,by simp,Fu (by decide) n,by rw [Fv];simp [bv],fun m _=>CQ n m⟩
 have hf:=mR true o;rw [hlen] at hf;obtain ⟨r,e1,hr⟩:=BQ mv hf (by omega);refine ⟨r,_,?_,hr,A2 bk,A1 _,by rw [A0];exact aT⟩
 simp only [go_sem,yb,av,t5,BP _ (n:=n) (l:=o) hlen true,e1,hr.shut,hr.fO]
end
end
section
open Go (IntKind)
def N6 (n:Int):IntKind.wrap .u64 n=n%18446744073709551616:=by
 simp [IntKind.wrap,IntKind.signed,IntKind.bits]
def wrapM (n:Nat):IntKind.wrap .u64 (n:Int)=((n%18446744073709551616:Nat):Int):=by rw [N6];omega
def pN (a b:Nat):binOp .mul (uc a) (uc b)=some (uc (a*b%18446744073709551616)):=by
 rw [ahr,<-vc,wrapM]
def Bs (a b:Nat):binOp .add (uc a) (uc b)=some (uc ((a+b)%18446744073709551616)):=by
 rw [ahq,<-Int.natCast_add,wrapM]
def DJ {a b c:Nat} (h:(a+18446744073709551616-b)%18446744073709551616=c) (hb:b<=18446744073709551616):binOp .sub (uc a) (uc b)=some (uc c):=by
 rw [Nn,N6]
 grind
def ayB (k k':y7) (a b:Int):binOp .shl (.int k a) (.int k' b)=CN .shl k a b:=rfl
def ayC (k k':y7) (a b:Int):binOp .shr (.int k a) (.int k' b)=CN .shr k a b:=rfl
def KN (k:y7) (a:Nat) {s:Nat} (hs:s<=64):binOp .shl (.int .u64 (a:Int)) (.int k (s:Int))=some (uc (a*2^s%18446744073709551616)):=by
 rw [ayB];simp only [CN,yD (show ¬(s:Int)<0 by omega),xU,IntKind.bits,xm hs];rw [show ((2:Int)^s)=((2^s:Nat):Int) by simp,<-vc,wrapM]
def KO (k:y7) (a:Nat) {s:Nat} (hs:s<=64):binOp .shr (.int .u64 (a:Int)) (.int k (s:Int))=some (uc (a/2^s)):=by
 rw [ayC];simp only [CN,yD (show ¬(s:Int)<0 by omega),xU,IntKind.bits,xm hs]
 grind
def ak4 (a:Nat):binOp .and (.int .u64 (a:Int)) (.int .u64 4294967295)=some (uc (a%4294967296)):=by
 show some (AV.int .u64 (IntKind.wrap .u64 ((xM 64 (a:Int)&&&xM 64 4294967295).toNat:Int)))=_
 rw [show xM 64 (a:Int)=uD 64 a from uE 64 a,show xM 64 4294967295=uD 64 4294967295 from rfl];rw [BitVec.toNat_and,vE,vE,show (4294967295%2^64:Nat)=2^32-1 from rfl,Nat.and_two_pow_sub_one_eq_mod,wrapM]
 grind
def orU {a b:Nat} (ha:a<18446744073709551616) (hb:b<18446744073709551616):binOp .or (.int .u64 (a:Int)) (.int .u64 (b:Int))=some (uc (a|||b)):=by
 show some (AV.int .u64 (IntKind.wrap .u64 ((xM 64 (a:Int)|||xM 64 (b:Int)).toNat:Int)))=_
 congr 2
 rw [show xM 64 (a:Int)=uD 64 a from uE 64 a,show xM 64 (b:Int)=uD 64 b from uE 64 b];rw [BitVec.toNat_or,vE,vE,yX (show a<2^64 from ha),yX (show b<2^64 from hb),wrapM]
 have:a|||b<2^64:=Nat.or_lt_two_pow ha hb
 omega
def Tq {p s c:Nat} (h:c<2^s):(p*2^s)|||c=p*2^s+c:=by
 rw [<-Nat.shiftLeft_eq,<-Nat.shiftLeft_add_eq_or_of_lt h]
def acf:∀(f n:Nat),n<2^f->eM f n<=f/\n<2^eM f n/\(0<n->0<eM f n/\2^(eM f n-1)<=n)
 | 0,n,h=>by simp [eM];simpa using h
 | f+1,n,h=>by
  simp only [eM];by_cases h0:n=0
  ·simp_all
  ·rw [hX h0,yV];obtain ⟨h1,h2,h3⟩:=acf f (n/2) (by omega);refine ⟨by omega,?_,fun _=>⟨by omega,?_⟩⟩
   ·grind
   ·rw [Nat.add_sub_cancel_left];by_cases hn:0<n/2
    ·obtain ⟨h4,h5⟩:=h3 hn;obtain ⟨m,hm⟩:∃m,eM f (n/2)=m+1:=⟨eM f (n/2)-1,by omega⟩
     grind
    ·have hz:n/2=0:=by omega
     have:eM f 0=0:=by cases f with
      | zero=>rfl
      | succ f=>rfl
     grind
def Ss {y:Nat} (h0:0<y) (h:y<18446744073709551616):64-eM 64 y<64/\9223372036854775808<=y*2^(64-eM 64 y)/\y*2^(64-eM 64 y)<18446744073709551616:=by
 obtain ⟨h1,h2,h3⟩:=acf 64 y h;obtain ⟨h4,h5⟩:=h3 h0;generalize eM 64 y=k at*
 refine ⟨by omega,?_,?_⟩
 ·have:=yQ (2^(64-k)) h5
  rw [<-wL,show k-1+(64-k)=63 by omega] at this;exact this
 ·have:=wz h2 (wC (64-k))
  rw [<-wL,show k+(64-k)=64 by omega] at this;exact this
section
variable {P:aM} {L:Lib} {f:cD}
def aiK (h:L.pure 167=some FB) {x:Nat} (hx:x<18446744073709551616):bP P L f 167 [uc x]=some (ab (64-eM 64 x:Nat)):=by
 rw [jq h];show (bif yR x 18446744073709551616 then _ else none)=_
 rw [kP hx];rfl
def aqY {b v1 v2 u u2 t r:Nat} (dF:v2<b) (kw:t<b) (ht:t*v1+r=u) (h:b<=r\/t*v2<=b*r+u2):t*(v1*b+v2)<=u*b+u2:=by
 have h2:t*v2<=b*r+u2:=by
  rcases h with h | h
  ·have:=wu (uW kw) (uW dF)
   have:=yZ b h
   omega
  ·exact h
 rw [xG,<-xp,<-ht,wE,xJ r b];omega
def aAH (n:Nat):pC (.toInt .u64) (.int .i64 (n:Int))=some (uc (n%18446744073709551616)):=by
 show some (AV.int .u64 (IntKind.wrap .u64 (n:Int)))=_
 rw [wrapM]
def abI {y v1 v2 u u2 q r:Nat} (hy:y=v1*4294967296+v2) (dF:v2<4294967296) (GU:0<v1) (fb:v1<4294967296) (hu:u<y) (AE:u2<4294967296) (hq:q*v1+r=u) (hr:r<4294967296) (hQ:(u*4294967296+u2)/y<=q):
  (4294967296<=q\/4294967296*r+u2<q*v2->0<q/\(q-1)*v1+(r+v1)=u/\(u*4294967296+u2)/y<=q-1/\(4294967296<=r+v1->(u*4294967296+u2)/y=q-1))/\
  (¬4294967296<=q->q*v2<=4294967296*r+u2->(u*4294967296+u2)/y=q):=by
 have iS:0<y:=by omega
 have QB:∀t s,t*v1+s=u->4294967296<=t->s<4294967296:=fun t s h1 h2=>by
  have:=yQ v1 h2
  grind
 have aiL:∀t s,t*v1+s=u->t<4294967296->(4294967296<=s\/t*v2<=4294967296*s+u2)->(u*4294967296+u2)/y<=t->(u*4294967296+u2)/y=t:=fun t s h1 h2 h3 h4=>by
  have:=aqY dF h2 h1 h3
  rw [<-hy] at this
  have:=(Nat.le_div_iff_mul_le iS).2 this
  omega
 constructor
 ·intro h;have a8:0<q:=by
   grind
  have h1:(q-1)*v1+(r+v1)=u:=by
   obtain ⟨p,rfl⟩:∃p,q=p+1:=⟨q-1,by omega⟩
   grind
  have h2:(u*4294967296+u2)/y<=q-1:=by
   have aZ:u*4294967296+u2<q*y:=by
    rcases h with h | h
    ·have h3:u*4294967296+u2<4294967296*y:=by omega
     exact yU h3 (yQ y h)
    ·rw [hy,xG,<-xp,<-hq,wE,xJ r];omega
   have:=(xV iS).2 aZ
   omega
  exact ⟨a8,h1,h2,fun h3=>aiL _ _ h1 (by
   by_cases hb:4294967296<=q-1
   ·have:=QB _ _ h1 hb;omega
   ·omega) (.inl h3) h2⟩
 ·intro h1 h2;exact aiL q r hq (by omega) (.inr h2) hQ
def ayD {y s v1 v2 u u2 z:Nat} (hy:y=v1*4294967296+v2) (dF:v2<4294967296) (GU:0<v1) (fb:v1<4294967296) (hu:u<y) (AE:u2<4294967296):
  ∀k st,(∃q r:Nat,aJ [2,8,9,10,11,13,14,15,16] st=⟨[(2,uc y),(8,uc s),(9,uc v1),(10,uc v2),(11,uc u),(13,uc u2),(14,uc z),(15,uc q),(16,uc r)],[],0,0⟩/\q*v1+r=u/\r<4294967296/\(u*4294967296+u2)/y<=q/\q=k)->
   ∃ex st',D P L (.loop [2,8,9,10,11,13,14,15,16] Bc) st=some (ex,st')/\∃tm ct,st'=⟨tm,[],ct,0⟩/\ex= .exit 0/\af tm 2=uc y/\af tm 8=uc s/\af tm 9=uc v1/\af tm 10=uc v2/\af tm 11=uc u/\af tm 13=uc u2/\af tm 14=uc z/\af tm 15=uc ((u*4294967296+u2)/y):=by
 intro dq sq;generalize a8:aJ [2,8,9,10,11,13,14,15,16] sq=s0;revert a8 s0 sq dq;apply cY;rintro k st ⟨q,r,rfl,hq,hr,hQ,rfl⟩;obtain ⟨g1,g2⟩:=abI hy dF GU fb hu AE hq hr hQ;have hqb:q*1<=q*v1:=yZ q GU;have aBX:=yQ 4294967296 (show v1<=4294967295 by omega);have oI:q<18446744073709551616:=by omega
 have ZU:=yZ 4294967296 (show r<=4294967295 by omega);have e1:=pN 4294967296 r;rw [show uc 4294967296=AV.int .u64 4294967296 from rfl,yX (show 4294967296*r<18446744073709551616 by omega)] at e1;have e2:=Bs (4294967296*r) u2;rw [yX (show 4294967296*r+u2<18446744073709551616 by omega)] at e2;have e4:=Bs r v1;rw [yX (show r+v1<18446744073709551616 by omega)] at e4;by_cases hc:4294967296<=q\/4294967296*r+u2<q*v2
 ·obtain ⟨h0,h1,h2,h3⟩:=g1 hc;have e3:binOp .sub (uc q) (.int .u64 1)=some (uc (q-1)):=DJ (b:=1) (by omega) (by omega);by_cases hb:4294967296<=r+v1
  ·right
   have oJ:=h3 hb;rcases (show 4294967296<=q\/(¬4294967296<=q/\4294967296*r+u2<q*v2) by omega) with t1 | ⟨t1,t2⟩
   ·simp only [go_sem,ya,Bc,show (4294967296:Int)<=(q:Int) by omega,e3,e4,show (4294967296:Int)<=((r+v1:Nat):Int) by omega];exact ⟨_,_,rfl,by simp,_,_,rfl,rfl,by simp only [go_sem,ya],by simp only [go_sem,ya],by simp only [go_sem,ya],by simp only [go_sem,ya],by simp only [go_sem,ya],by simp only [go_sem,ya],by simp only [go_sem,ya],by rw [oJ];simp only [go_sem,ya]⟩
   ·have hqv:=wu (show q<=4294967295 by omega) (show v2<=4294967295 by omega);have e5:=pN q v2;rw [yX (show q*v2<18446744073709551616 by omega)] at e5;simp only [go_sem,ya,Bc,show ¬(4294967296:Int)<=(q:Int) by omega,e5,e1,e2,show ((4294967296*r+u2:Nat):Int)<((q*v2:Nat):Int) by omega,e3,e4,show (4294967296:Int)<=((r+v1:Nat):Int) by omega];exact ⟨_,_,rfl,by simp,_,_,rfl,rfl,by simp only [go_sem,ya],by simp only [go_sem,ya],by simp only [go_sem,ya],by simp only [go_sem,ya],by simp only [go_sem,ya],by simp only [go_sem,ya],by simp only [go_sem,ya],by rw [oJ];simp only [go_sem,ya]⟩
  ·left
   rcases (show 4294967296<=q\/(¬4294967296<=q/\4294967296*r+u2<q*v2) by omega) with t1 | ⟨t1,t2⟩
   ·simp only [go_sem,ya,Bc,show (4294967296:Int)<=(q:Int) by omega,e3,e4,show ¬(4294967296:Int)<=((r+v1:Nat):Int) by omega];exact ⟨_,q-1,rfl,by omega,q-1,r+v1,by simp only [go_sem,ya,av],h1,by omega,h2,rfl⟩
   ·have hqv:=wu (show q<=4294967295 by omega) (show v2<=4294967295 by omega);have e5:=pN q v2;rw [yX (show q*v2<18446744073709551616 by omega)] at e5;simp only [go_sem,ya,Bc,show ¬(4294967296:Int)<=(q:Int) by omega,e5,e1,e2,show ((4294967296*r+u2:Nat):Int)<((q*v2:Nat):Int) by omega,e3,e4,show ¬(4294967296:Int)<=((r+v1:Nat):Int) by omega];exact ⟨_,q-1,rfl,by omega,q-1,r+v1,by simp only [go_sem,ya,av],h1,by omega,h2,rfl⟩
 ·right
  have oJ:=g2 (by omega) (by omega);have e5:=pN q v2;rw [yX (show q*v2<18446744073709551616 by omega)] at e5;simp only [go_sem,ya,Bc,show ¬(4294967296:Int)<=(q:Int) by omega,e5,e1,e2,show ¬((4294967296*r+u2:Nat):Int)<((q*v2:Nat):Int) by omega];exact ⟨_,_,rfl,by simp,_,_,rfl,rfl,by simp only [go_sem,ya],by simp only [go_sem,ya],by simp only [go_sem,ya],by simp only [go_sem,ya],by simp only [go_sem,ya],by simp only [go_sem,ya],by simp only [go_sem,ya],by rw [oJ];simp only [go_sem,ya]⟩
end
end
section
open Go (IntKind)
section
variable {P:aM} {L:Lib} {f:cD}
def ayE {y s v1 v2 u u2 z:Nat} (hy:y=v1*4294967296+v2) (dF:v2<4294967296) (GU:0<v1) (fb:v1<4294967296) (hu:u<y) (AE:u2<4294967296):
  ∀k st,(∃q r:Nat,aJ [2,8,9,10,14,15,16,17,18] st=⟨[(2,uc y),(8,uc s),(9,uc v1),(10,uc v2),(14,uc u2),(15,uc z),(16,uc r),(17,uc u),(18,uc q)],[],0,0⟩/\q*v1+r=u/\r<4294967296/\(u*4294967296+u2)/y<=q/\q=k)->
   ∃ex st',D P L (.loop [2,8,9,10,14,15,16,17,18] Be) st=some (ex,st')/\∃tm ct,st'=⟨tm,[],ct,0⟩/\ex= .exit 2/\af tm 2=uc y/\af tm 8=uc s/\af tm 9=uc v1/\af tm 10=uc v2/\af tm 14=uc u2/\af tm 15=uc z/\af tm 17=uc u/\af tm 18=uc ((u*4294967296+u2)/y):=by
 intro dq sq;generalize a8:aJ [2,8,9,10,14,15,16,17,18] sq=s0;revert a8 s0 sq dq;apply cY;rintro k st ⟨q,r,rfl,hq,hr,hQ,rfl⟩;obtain ⟨g1,g2⟩:=abI hy dF GU fb hu AE hq hr hQ;have hqb:q*1<=q*v1:=yZ q GU;have aBX:=yQ 4294967296 (show v1<=4294967295 by omega);have oI:q<18446744073709551616:=by omega
 have ZU:=yZ 4294967296 (show r<=4294967295 by omega);have e1:=pN 4294967296 r;rw [show uc 4294967296=AV.int .u64 4294967296 from rfl,yX (show 4294967296*r<18446744073709551616 by omega)] at e1;have e2:=Bs (4294967296*r) u2;rw [yX (show 4294967296*r+u2<18446744073709551616 by omega)] at e2;have e4:=Bs r v1;rw [yX (show r+v1<18446744073709551616 by omega)] at e4;by_cases hc:4294967296<=q\/4294967296*r+u2<q*v2
 ·obtain ⟨h0,h1,h2,h3⟩:=g1 hc;have e3:binOp .sub (uc q) (.int .u64 1)=some (uc (q-1)):=DJ (b:=1) (by omega) (by omega);by_cases hb:4294967296<=r+v1
  ·right
   have oJ:=h3 hb;rcases (show 4294967296<=q\/(¬4294967296<=q/\4294967296*r+u2<q*v2) by omega) with t1 | ⟨t1,t2⟩
   ·simp only [go_sem,ya,Be,show (4294967296:Int)<=(q:Int) by omega,e3,e4,show (4294967296:Int)<=((r+v1:Nat):Int) by omega];exact ⟨_,_,rfl,by simp,_,_,rfl,rfl,by simp only [go_sem,ya],by simp only [go_sem,ya],by simp only [go_sem,ya],by simp only [go_sem,ya],by simp only [go_sem,ya],by simp only [go_sem,ya],by simp only [go_sem,ya],by rw [oJ];simp only [go_sem,ya]⟩
   ·have hqv:=wu (show q<=4294967295 by omega) (show v2<=4294967295 by omega);have e5:=pN q v2;rw [yX (show q*v2<18446744073709551616 by omega)] at e5;simp only [go_sem,ya,Be,show ¬(4294967296:Int)<=(q:Int) by omega,e5,e1,e2,show ((4294967296*r+u2:Nat):Int)<((q*v2:Nat):Int) by omega,e3,e4,show (4294967296:Int)<=((r+v1:Nat):Int) by omega];exact ⟨_,_,rfl,by simp,_,_,rfl,rfl,by simp only [go_sem,ya],by simp only [go_sem,ya],by simp only [go_sem,ya],by simp only [go_sem,ya],by simp only [go_sem,ya],by simp only [go_sem,ya],by simp only [go_sem,ya],by rw [oJ];simp only [go_sem,ya]⟩
  ·left
   rcases (show 4294967296<=q\/(¬4294967296<=q/\4294967296*r+u2<q*v2) by omega) with t1 | ⟨t1,t2⟩
   ·simp only [go_sem,ya,Be,show (4294967296:Int)<=(q:Int) by omega,e3,e4,show ¬(4294967296:Int)<=((r+v1:Nat):Int) by omega];exact ⟨_,q-1,rfl,by omega,q-1,r+v1,by simp only [go_sem,ya,av],h1,by omega,h2,rfl⟩
   ·have hqv:=wu (show q<=4294967295 by omega) (show v2<=4294967295 by omega);have e5:=pN q v2;rw [yX (show q*v2<18446744073709551616 by omega)] at e5;simp only [go_sem,ya,Be,show ¬(4294967296:Int)<=(q:Int) by omega,e5,e1,e2,show ((4294967296*r+u2:Nat):Int)<((q*v2:Nat):Int) by omega,e3,e4,show ¬(4294967296:Int)<=((r+v1:Nat):Int) by omega];exact ⟨_,q-1,rfl,by omega,q-1,r+v1,by simp only [go_sem,ya,av],h1,by omega,h2,rfl⟩
 ·right
  have oJ:=g2 (by omega) (by omega);have e5:=pN q v2;rw [yX (show q*v2<18446744073709551616 by omega)] at e5;simp only [go_sem,ya,Be,show ¬(4294967296:Int)<=(q:Int) by omega,e5,e1,e2,show ¬((4294967296*r+u2:Nat):Int)<((q*v2:Nat):Int) by omega];exact ⟨_,_,rfl,by simp,_,_,rfl,rfl,by simp only [go_sem,ya],by simp only [go_sem,ya],by simp only [go_sem,ya],by simp only [go_sem,ya],by simp only [go_sem,ya],by simp only [go_sem,ya],by simp only [go_sem,ya],by rw [oJ];simp only [go_sem,ya]⟩
def ajs (a:Nat):binOp .shr (.int .u64 (a:Int)) (.int .u64 32)=some (uc (a/4294967296)):=KO .u64 a (s:=32) (by decide)
def ak5 (a:Nat) {b:Nat} (ha:a<18446744073709551616) (hb:0<b):binOp .quo (uc a) (uc b)=some (uc (a/b)):=by
 rw [gL _ _ _ (by omega),Int.tdiv_eq_ediv_of_nonneg (by omega),<-Int.natCast_ediv,wrapM,yX];exact wJ (vB a b) ha
def aBY (a:Nat) {b:Nat} (hb:0<b):binOp .rem (uc a) (uc b)=some (uc (a%b)):=by
 rw [iV _ _ _ (by omega),Int.tmod_eq_emod_of_nonneg (by omega),<-Int.natCast_emod]
def aqZ {hi lo y s u z Y:Nat} (hs:s<64) (bk:lo<18446744073709551616) (hY:Y=y*2^s) (hu:u=hi*2^s+lo/2^(64-s)) (hz:z=lo*2^s%18446744073709551616):
  (hi*18446744073709551616+lo)*2^s=u*18446744073709551616+z:=by
 have e:18446744073709551616=2^(64-s)*2^s:=by rw [<-wL,show 64-s+s=64 by omega]
 have h1:lo*2^s/18446744073709551616=lo/2^(64-s):=by
  rw [e,uI _ _ (wC s)]
 grind
def ac4 {Y q a b:Nat} (h1:a<Y) (h2:b<4294967296) (h3:q=(a*4294967296+b)/Y):q<4294967296:=by
 rw [h3];exact (xV (by omega)).2 (by omega)
def as3 {u w x z z0 z1 q0 q1 Y:Nat} (jd:q1*Y+w=u*4294967296+z1) (iG:q0*Y+x=w*4294967296+z0) (hz:z=z1*4294967296+z0):u*18446744073709551616+z=(q1*4294967296+q0)*Y+x:=by grind
def apv {q1 q0:Nat} (h1:q1<4294967296) (h0:q0<4294967296):q1*4294967296<18446744073709551616/\q1*4294967296+q0<18446744073709551616:=by omega
def ak6 (h:Has P L 165 Kd) (KP:L.pure 167=some FB) {hi lo y:Nat} (gK:hi<y) (bk:lo<18446744073709551616) (hy:y<18446744073709551616):
  aj P L 165 [uc hi,uc lo,uc y] (.ae [uc ((hi*18446744073709551616+lo)/y),uc ((hi*18446744073709551616+lo)%y)]):=by
 have iS:0<y:=by omega
 by_cases h0:hi=0
 ·subst h0;have e1:=ak5 lo bk iS;have e2:=aBY lo iS;rw [tQ,ye];unfold aj;rw [aI h];simp only [go_sem,ya,Kd,show ¬(y:Int)=0 by omega,show ¬(y:Int)<=0 by omega,show ((0:Nat):Int)=0 from rfl,e1,e2];rfl
 ·obtain ⟨s,hs⟩:∃s,s=64-eM 64 y:=⟨_,rfl⟩;have hl:=aiK (P:=P) (f:=D P L) KP hy;obtain ⟨l1,l2,l3⟩:=Ss iS hy;rw [<-hs] at hl l1 l2 l3;obtain ⟨Y,hY⟩:∃Y,Y=y*2^s:=⟨_,rfl⟩;obtain ⟨u,hu⟩:∃u,u=hi*2^s+lo/2^(64-s):=⟨_,rfl⟩;obtain ⟨z,hz⟩:∃z,z=lo*2^s%18446744073709551616:=⟨_,rfl⟩;have hdiv:=aqZ l1 bk hY hu hz;rw [<-hY] at l2 l3;have hp:=wC s;obtain ⟨v1,fb⟩:∃v,v=Y/4294967296:=⟨_,rfl⟩;obtain ⟨v2,dF⟩:∃v,v=Y%4294967296:=⟨_,rfl⟩;have hYv:Y=v1*4294967296+v2:=by omega
  obtain ⟨z1,mA⟩:∃v,v=z/4294967296:=⟨_,rfl⟩;obtain ⟨z0,kB⟩:∃v,v=z%4294967296:=⟨_,rfl⟩;have GV:z<18446744073709551616:=by omega
  have hhY:hi*2^s<Y:=by rw [hY];exact wz gK hp
  have jC:lo/2^(64-s)<2^s:=by
   refine (xV (wC _)).2 ?_;rw [<-wL,show s+(64-s)=64 by omega];exact bk
  have oB:hi*2^s|||lo/2^(64-s)=u:=by rw [Tq jC,hu]
  have hN:hi*18446744073709551616+lo<y*18446744073709551616:=by
   have:=yQ 18446744073709551616 (show hi+1<=y from gK)
   omega
  have huY:u<Y:=by
   have h1:=wz hN hp;rw [hdiv,Nat.mul_right_comm,<-hY] at h1;omega
  obtain ⟨q1,fy⟩:∃q,q=(u*4294967296+z1)/Y:=⟨_,rfl⟩;obtain ⟨w,hw⟩:∃q,q=(u*4294967296+z1)%Y:=⟨_,rfl⟩;obtain ⟨q0,a8⟩:∃q,q=(w*4294967296+z0)/Y:=⟨_,rfl⟩;obtain ⟨x,hx⟩:∃q,q=(w*4294967296+z0)%Y:=⟨_,rfl⟩;have QC:w<Y:=by rw [hw];exact xE _ (by omega)
  have hxY:x<Y:=by rw [hx];exact xE _ (by omega)
  have jd:=xR (u*4294967296+z1) Y;rw [<-fy,<-hw,xJ] at jd;have iG:=xR (w*4294967296+z0) Y;rw [<-a8,<-hx,xJ] at iG;have aBZ:=ac4 huY (show z1<4294967296 by omega) fy;have aB0:=ac4 QC (show z0<4294967296 by omega) a8;obtain ⟨td1,td2⟩:=apv aBZ aB0;have BR:(hi*18446744073709551616+lo)*2^s=(q1*4294967296+q0)*Y+x:=by
   rw [hdiv];exact as3 jd iG (by omega)
  have r1:(hi*18446744073709551616+lo)/y=q1*4294967296+q0:=by
   rw [<-uI _ _ hp,BR,<-hY,xJ _ Y,tz (by omega),wM hxY,y5]
  have r2:x/2^s=(hi*18446744073709551616+lo)%y:=by
   have h1:x=(hi*18446744073709551616+lo)*2^s%(y*2^s):=by
    rw [BR,<-hY,xJ _ Y,tA,yX hxY]
   rw [h1,vM,Nat.mul_div_cancel _ hp]
  have o1:=KN .u64 y (s:=s) (by omega);rw [<-hY,yX l3] at o1;have o2:=ajs Y;rw [<-fb] at o2;have o3:=ak4 Y;rw [<-dF] at o3;have o4:=KN .u64 hi (s:=s) (by omega);rw [yX (show hi*2^s<18446744073709551616 by omega)] at o4;have o5:binOp .sub (.int .u64 64) (uc s)=some (uc (64-s)):=DJ (a:=64) (by omega) (by omega);have o6:=KO .u64 lo (s:=64-s) (by omega);have o7:=orU (a:=hi*2^s) (b:=lo/2^(64-s)) (by omega) (wJ (vB _ _) bk);rw [oB] at o7;have o8:=KN .u64 lo (s:=s) (by omega);rw [<-hz] at o8;have o9:=ajs z;rw [<-mA] at o9;have o10:=ak4 z;rw [<-kB] at o10;have Gk:0<v1:=by omega
  have ajt:∀{a:Nat},a<Y->binOp .quo (uc a) (uc v1)=some (uc (a/v1))/\binOp .mul (uc (a/v1)) (uc v1)=some (uc (a/v1*v1))/\binOp .sub (uc a) (uc (a/v1*v1))=some (uc (a%v1)):=fun {a} ha=>by
   have h1:=xR a v1;rw [xJ] at h1;have h2:=pN (a/v1) v1;generalize a/v1*v1=m at*
   rw [yX (show m<18446744073709551616 by omega)] at h2;exact ⟨ak5 a (by omega) Gk,h2,DJ (by omega) (by omega)⟩
  obtain ⟨g1,g2,g3⟩:=ajt huY;obtain ⟨g4,g5,g6⟩:=ajt QC;have first:∀{a b:Nat},b<4294967296->(a*4294967296+b)/Y<=a/v1:=fun {a b} hb=>by
   have:=Ru (b:=4294967296) (V:=Y) (v1:=v1) (v2:=v2) (vr:=0) (U:=a*4294967296+b) (u0:=0) (u1:=a) (u2:=b) (ur:=0) (p:=1) (by omega) (by omega) (by decide) hb Gk
   simpa using this
  have back:∀{a b q x:Nat},a*4294967296+b=q*Y+x->x<Y->binOp .mul (uc a) (.int .u64 4294967296)=some (uc (a*4294967296%18446744073709551616))/\binOp .add (uc (a*4294967296%18446744073709551616)) (uc b)=some (uc ((a*4294967296%18446744073709551616+b)%18446744073709551616))/\
    binOp .mul (uc q) (uc Y)=some (uc (q*Y%18446744073709551616))/\binOp .sub (uc ((a*4294967296%18446744073709551616+b)%18446744073709551616)) (uc (q*Y%18446744073709551616))=some (uc x):=fun {a b q x} h1 h2=>by
   refine ⟨pN a 4294967296,Bs _ _,pN q Y,DJ ?_ (by omega)⟩;generalize q*Y=m at*
   omega
  obtain ⟨k1,k2,k3,k4⟩:=back jd.symm QC;obtain ⟨k5,k6,k7,k8⟩:=back iG.symm hxY;have m1:=pN q1 4294967296;rw [yX td1,show uc 4294967296=AV.int .u64 4294967296 from rfl] at m1;have m2:=Bs (q1*4294967296) q0;rw [yX td2] at m2;have m3:=KO .u64 x (s:=s) (by omega);rw [r1,<-r2];unfold aj;rw [aI h];simp only [go_sem,ya,Kd,show ¬(y:Int)=0 by omega,show ¬(y:Int)<=(hi:Int) by omega,show ¬(hi:Int)=0 by omega,hl,aAH,yX (show s<18446744073709551616 by omega),o1,o2,o3,o4,o5,o6,o7,o8,o9,o10,g1,g2,g3];generalize mG:D P L (.loop [2,8,9,10,11,13,14,15,16] Bc) _=qq
  obtain ⟨ex,st,rfl,tm,ct,rfl,rfl,t2,t8,t9,t10,t11,t13,t14,t15⟩:=bq mG (ayD (P:=P) (L:=L) (s:=s) (z:=z0) hYv (by omega) Gk (by omega) huY (show z1<4294967296 by omega) (u/v1)) ⟨u/v1,u%v1,by simp only [go_sem,ya,av],by rw [xJ];exact xR u v1,by have:=xE u Gk;omega,first (by omega),rfl⟩
  rw [<-fy] at t15;simp only [go_sem,ya,av,t2,t8,t9,t10,t11,t13,t14,t15,k1,k2,k3,k4,g4,g5,g6];generalize DK:D P L (.loop [2,8,9,10,14,15,16,17,18] Be) _=qq2;obtain ⟨ex,st,rfl,sR,GW,rfl,rfl,t2,t8,t9,t10,t14,t15,t17,t18⟩:=bq DK (ayE (P:=P) (L:=L) (s:=s) (z:=q1) hYv (by omega) Gk (by omega) QC (show z0<4294967296 by omega) (w/v1)) ⟨w/v1,w%v1,by simp only [go_sem,ya,av],by rw [xJ];exact xR w v1,by have:=xE w Gk;omega,first (by omega),rfl⟩
  rw [<-a8] at t18;simp only [go_sem,ya,av,t2,t8,t14,t15,t17,t18,m1,m2,k5,k6,k7,k8,m3];rfl
end
end
section
open Go (IntKind)
mutual
def below (n:Nat):AV->Prop
 | .ptr id _=>id<n
 | .aw id _ _=>id<n
 | .map id=>id<n
 | .it id=>id<n
 | .fn (.f _) first cap=>qR n first/\qR n cap
 | .fn (.y l) first cap=>l<n/\first=[]/\cap=[]
 | .agg cs=>qR n cs
 | .ae cs=>qR n cs
 | _=>True
def qR (n:Nat):List AV->Prop
 | []=>True
 | v::r=>below n v/\qR n r
end
def qS (n:Nat):Env->Prop
 | []=>True
 | (_,v)::r=>below n v/\qS n r
def Dh (n:Nat):Obj->Prop
 | .cells _ pu _ _ cs=>pu=true\/qR n cs
 | .mp _ ks vs=>qR n ks/\qR n vs
 | .si _ _=>True
 | .lp tm _ _ _ _ _=>qS n tm
def Jw (b n:Nat):Hp->Prop
 | []=>True
 | (id,o)::r=>id<b/\Dh n o/\Jw b n r
mutual
def ac5 {f:Nat->Option Nat} {n:Nat} (hf:∀x,x<n->f x=some x):∀{v:AV},below n v->ck f v=v
 | .int _ _,_ | .bool _,_ | .bU _ _,_ | .str _,_ | .kR,_ | .cg _,_ | .aa,_ | .aB _ _ _,_ | .iZ,_ | .kh,_ | .jw _ _,_ | .undef,_ | .bw _ _ _ _,_=>rfl
 | .ptr id o,h=>by simp only [ck,hf id h]
 | .aw id o k,h=>by simp only [ck,hf id h]
 | .map id,h=>by simp only [ck,hf id h]
 | .it id,h=>by simp only [ck,hf id h]
 | .fn (.y l) first cap,h=>by
  obtain ⟨h1,rfl,rfl⟩:=h;simp only [ck,hf l h1,fo]
 | .fn (.f _) first cap,h=>by
  simp only [ck,AS hf h.1,AS hf h.2]
 | .agg cs,h=>by simp only [below] at h;simp only [ck,AS hf h]
 | .ae cs,h=>by simp only [below] at h;simp only [ck,AS hf h]
def AS {f:Nat->Option Nat} {n:Nat} (hf:∀x,x<n->f x=some x):∀{vs:List AV},qR n vs->fo f vs=vs
 | [],_=>rfl
 | v::r,h=>by simp only [fo,ac5 hf h.1,AS hf h.2]
end
def RG {f:Nat->Option Nat} {n:Nat} (hf:∀x,x<n->f x=some x):∀{tm:Env},qS n tm->gm f tm=tm
 | [],_=>rfl
 | (_,v)::r,h=>by simp only [gm,ac5 hf h.1,RG hf h.2]
def apw {f:Nat->Option Nat} {n:Nat} (hf:∀x,x<n->f x=some x):∀{o:Obj},Dh n o->ja f o=o
 | .cells _ pu _ _ cs,h=>by
  cases pu with
  | true=>rfl
  | false=>simp only [Dh,yL,yby] at h;simp only [ja,yV,AS hf h]
 | .mp _ ks vs,h=>by simp only [ja,AS hf h.1,AS hf h.2]
 | .si _ _,_=>rfl
 | .lp tm _ _ _ _ _,h=>by simp only [Dh] at h;simp only [ja,RG hf h]
mutual
def acg {n:Nat}:∀{v:AV},below n v->∀x,x∈refs v->x<n
 | .int _ _,_,x,h | .bool _,_,x,h | .bU _ _,_,x,h | .str _,_,x,h | .kR,_,x,h | .cg _,_,x,h | .aa,_,x,h | .aB _ _ _,_,x,h | .iZ,_,x,h | .kh,_,x,h | .jw _ _,_,x,h | .undef,_,x,h | .bw _ _ _ _,_,x,h=>by simp [refs] at h
 | .ptr id o,h,x,hx=>by simp only [refs,wV] at hx;subst hx;exact h
 | .aw id o k,h,x,hx=>by simp only [refs,wV] at hx;subst hx;exact h
 | .map id,h,x,hx=>by simp only [refs,wV] at hx;subst hx;exact h
 | .it id,h,x,hx=>by simp only [refs,wV] at hx;subst hx;exact h
 | .fn (.y l) first cap,h,x,hx=>by simp only [refs,wV] at hx;subst hx;exact h.1
 | .fn (.f _) first cap,h,x,hx=>by
  simp only [refs,wK] at hx;exact hx.elim (AQ h.1 x) (AQ h.2 x)
 | .agg cs,h,x,hx=>by simp only [below] at h;simp only [refs] at hx;exact AQ h x hx
 | .ae cs,h,x,hx=>by simp only [below] at h;simp only [refs] at hx;exact AQ h x hx
def AQ {n:Nat}:∀{vs:List AV},qR n vs->∀x,x∈iI vs->x<n
 | [],_,x,h=>by simp [iI] at h
 | v::r,h,x,hx=>by
  simp only [iI,wK] at hx;exact hx.elim (acg h.1 x) (AQ h.2 x)
end
def Rv {n:Nat}:∀{tm:Env},qS n tm->∀x,x∈fL tm->x<n
 | [],_,x,h=>by simp [fL] at h
 | (_,v)::r,h,x,hx=>by
  simp only [fL,wK] at hx;exact hx.elim (acg h.1 x) (Rv h.2 x)
def aoO {n:Nat}:∀{o:Obj},Dh n o->∀x,x∈kM o->x<n
 | .cells _ pu _ _ cs,h,x,hx=>by
  cases pu with
  | true=>simp [kM] at hx
  | false=>simp only [Dh,yL,yby] at h;exact AQ h x hx
 | .mp _ ks vs,h,x,hx=>by
  simp only [kM,wK] at hx;exact hx.elim (AQ h.1 x) (AQ h.2 x)
 | .si _ _,_,x,hx=>by simp [kM] at hx
 | .lp tm _ _ _ _ _,h,x,hx=>by simp only [Dh] at h;exact Rv h x hx
def j9 (B:Nat):List (List AV)->Hp
 | []=>[]
 | cs::r=>(B+r.length,.cells true true true 1 cs)::j9 B r
def Dr (B:Nat):List (List AV)->Hp->Hp
 | [],acc=>acc
 | cs::r,acc=>Dr (B+1) r ((B,.cells true true true 1 cs)::acc)
def ach:∀(l:List (List AV)) (B:Nat) (x:List AV) (acc:Hp),Dr B (l++[x]) acc=(B+l.length,.cells true true true 1 x)::Dr B l acc
 | [],B,x,acc=>rfl
 | c::l,B,x,acc=>by
  simp only [xk,Dr,ach l,yI]
  grind
def ac6 (B:Nat) (acc:Hp):∀rs:List (List AV),Dr B rs.reverse acc=j9 B rs++acc
 | []=>rfl
 | c::r=>by
  simp only [yaB,ach,ac6 B acc r,yaq,j9,xk]
def ac7 {B:Nat} {old:Hp}:∀{rs:List (List AV)} {i:Nat} (h:i<rs.length),ay (j9 B rs++old) (B+i)=some (.cells true true true 1 (rs.reverse[i]'(by simpa using h)))
 | c::r,i,h=>by
  simp only [j9,xk,yaB];by_cases hi:i=r.length
  ·subst hi;rw [ay,wP,yA]
   simp
  ·have aZ:i<r.length:=by grind
   rw [ay,hX (by omega),yV,ac7 aZ]
   grind
def Di {a b:Nat} (h:a<b):yR a b=true:=by simp_all
def Jx {a b:Nat} (h:b<=a):yR a b=false:=by
 cases hq:yR a b with
 | false=>rfl
 | true=>have:=yz hq;omega
def Ri {B:Nat} {old:Hp}:∀rs:List (List AV),jr B (j9 B rs++old)=jr B old
 | []=>rfl
 | c::r=>by
  simp only [j9,xk];rw [jr,Jx (by omega),yV,Ri r]
def aci {B:Nat} {old:Hp} {f:Nat->Option Nat}:∀rs:List (List AV),mh B f (j9 B rs++old)=mh B f old
 | []=>rfl
 | c::r=>by
  simp only [j9,xk];rw [mh,Jx (by omega),yV,aci r]
def abJ {B n:Nat} {f:Nat->Option Nat} (hf:∀x,x<n->f x=some x):∀{old:Hp},Jw B n old->mh B f old=old
 | [],_=>rfl
 | (id,o)::r,h=>by
  rw [mh,Di h.1,yA,apw hf h.2.1,abJ hf h.2.2]
def apx {B s x:Nat} (h:B+s<=x):jx x (we B s)=false:=by
 induction s generalizing B with
 | zero=>rfl
 | succ s ih=>rw [ua,jx,hX (by omega),yV,ih (by omega)]
def RH {hp:Hp} {B R:Nat} (nk:∀i,i<R->∃rw ex sz cs,ay hp (B+i)=some (.cells rw true ex sz cs)):
  ∀(W:List Nat) (bD s:Nat),W.length<bD->s<=R->W.filter (fun x=> !yR x B)=we (B+s) (R-s)->reach hp B bD W (we B s)=we B R
 | [],0,s,hf,_,_=>by simp at hf
 | [],bD+1,s,hf,hs,h=>by
  have:R-s=0:=by
   grind
  rw [reach,show R=s by omega]
 | id::W,0,s,hf,_,_=>by simp at hf
 | id::W,bD+1,s,hf,hs,h=>by
  have B4:W.length<bD:=by simp_all
  rw [reach];by_cases hid:id<B
  ·rw [Di hid,Bool.true_or,yA];rw [yaK,Di hid] at h;exact RH nk W bD s B4 hs (by simpa using h)
  ·rw [yaK,Jx (by omega)] at h;have hRs:R-s=(R-s-1)+1:=by
    have:=congrArg List.length h
    grind
   rw [hRs,ua] at h;injection h with h1 h2
   subst h1;rw [Jx (by omega),Bool.false_or,apx (yv _),yV];obtain ⟨rw,ex,sz,cs,ho⟩:=nk s (by omega);simp only [ho,kM,yA,xC];have e:we B s++[B+s]=we B (s+1):=by rw [List.range'_concat];simp
   rw [e];exact RH nk W bD (s+1) B4 (by omega) (by rw [h2,show R-s-1=R-(s+1) by omega,show B+s+1=B+(s+1) by omega])
def apy {B s i k:Nat} (h:i<s):fh (B+i) (we B s) k=some (k+i):=by
 induction s generalizing B i k with
 | zero=>omega
 | succ s ih=>
  rw [ua,fh];by_cases hi:i=0
  ·simp_all
  ·rw [hX (by omega),yV]
   have:=ih (B:=B+1) (i:=i-1) (k:=k+1) (by omega)
   grind
def aoP {B R x:Nat} (h:x<B+R):kN B (we B R) x=some x:=by
 unfold kN;by_cases hx:x<B
 ·rw [Di hx,yA]
 ·rw [Jx (by omega),yV]
  have:=apy (B:=B) (s:=R) (i:=x-B) (k:=B) (by omega)
  grind
def acj {hp:Hp} {f:Nat->Option Nat}:∀(ro:List (List AV)) (B:Nat) (acc:Hp),(∀i (h:i<ro.length),ay hp (B+i)=some (.cells true true true 1 ro[i]))->ib hp f (we B ro.length) B acc=Dr B ro acc
 | [],B,acc,_=>rfl
 | c::r,B,acc,h=>by
  have h0:=h 0 (by simp);simp only [y5,List.getElem_cons_zero] at h0;rw [yI,ua,ib];simp only [h0,ja,yA,Dr]
  exact acj r (B+1) _ (fun i hi=>by
   have:=h (i+1) (by simpa using hi)
   rw [show B+1+i=B+(i+1) by omega,this]
   simp)
def aoj {live:List Nat} {tm:Env} {B ct:Nat} {old:Hp} {rs:List (List AV)} (ht:qS B (cC tm live)) (ho:Jw B (B+rs.length) old) (hl:(fL (cC tm live)).length+(jr B old).length<100000)
  (hr:(jr B old).filter (fun x=> !yR x B)=we B rs.length):aJ live ⟨tm,j9 B rs++old,ct,B⟩=⟨cC tm live,j9 B rs++old,B+rs.length,B⟩:=by
 have nk:∀i (h:i<rs.length),ay (j9 B rs++old) (B+i)=some (.cells true true true 1 (rs.reverse[i]'(by simpa using h))):=fun i h=>ac7 h
 have ai7:reach (j9 B rs++old) B 100000 (fL (cC tm live)++jr B (j9 B rs++old)) []=we B rs.length:=by
  have:=RH (hp:=j9 B rs++old) (B:=B) (R:=rs.length) (fun i hi=>⟨_,_,_,_,nk i hi⟩) (fL (cC tm live)++jr B (j9 B rs++old)) 100000 0 (by rw [Ri,List.length_append];exact hl) (ue _) (by
   rw [List.filter_append,Ri,hr,tW.2 (fun x hx=>by
    have:=Rv ht x hx
    simp [Di this])]
   simp)
  grind
 have hid:∀x,x<B+rs.length->kN B (we B rs.length) x=some x:=fun x hx=>aoP hx
 have hn:=acj (hp:=j9 B rs++old) (f:=kN B (we B rs.length)) rs.reverse B old (fun i hi=>nk i (by simpa using hi));rw [yaq] at hn;simp only [aJ,ai7,aci,abJ hid ho,hn,ac6,List.length_range']
 rw [RG (n:=B) (fun x hx=>hid x (by omega)) ht]
def ack {B b n:Nat} (hb:b<=B):∀{H:Hp},Jw b n H->∀x,x∈jr B H->x<n
 | [],_,x,hx=>by simp [jr] at hx
 | (id,o)::r,h,x,hx=>by
  rw [jr,Di (by have:=h.1;omega),yA,wK] at hx;exact hx.elim (aoO h.2.1 x) (ack hb h.2.2 x)
def abK {live:List Nat} {tm:Env} {B ct:Nat} {old:Hp} (ht:qS B (cC tm live)) (ho:Jw B B old) (hl:(fL (cC tm live)).length+(jr B old).length<100000):
  aJ live ⟨tm,old,ct,B⟩=⟨cC tm live,old,B,B⟩:=by
 have:=aoj (rs:=[]) (ct:=ct) ht (by simpa using ho) hl (by
  rw [tW.2 (fun x hx=>by have:=ack (yv B) ho x hx;simp [Di this])]
  rfl)
 simpa [j9] using this
end
section
open Go (IntKind)
section
variable {P:aM} {L:Lib}
def EU {n:Nat} {F:aV} (h:Has P L n F) {hp:Hp} {ct:Nat} {az:List AV} {ex:Ex} {s:St} {v:AV} (hD:D P L F.body ⟨dM 0 az,hp,ct,ct⟩=some (ex,s)) (he:ex= .normal\/ex= .ret) (hr:iT s F.fO=some v):
  hZ P L (D P L) hp ct n az=some (v,s.hp,s.ct):=by
 simp only [hZ,h.heap,h.code,hD]
 grind
def ad8 (z:AV):∀n,(yk n [z]).flatten=yk n z
 | 0=>rfl
 | n+1=>by rw [wO,List.flatten_cons,ad8 z n,wO];rfl
mutual
def qG {n:Nat}:∀{v:AV},a7 v=true->below n v
 | .int _ _,_ | .bool _,_ | .bU _ _,_ | .str _,_ | .kR,_ | .cg _,_ | .aa,_ | .aB _ _ _,_ | .iZ,_ | .kh,_ | .jw _ _,_ | .undef,_=>trivial
 | .bw _ _ _ _,_=>trivial
 | .ptr _ _,h | .aw _ _ _,h | .map _,h | .it _,h=>by simp [a7] at h
 | .fn (.y _) _ _,h=>by simp [a7] at h
 | .fn (.f _) _ _,h=>by
  simp only [a7,yh] at h;exact ⟨Ih h.1,Ih h.2⟩
 | .agg cs,h=>by simp only [a7] at h;simp only [below];exact Ih h
 | .ae cs,h=>by simp only [a7] at h;simp only [below];exact Ih h
def Ih {n:Nat}:∀{vs:List AV},aK vs=true->qR n vs
 | [],_=>trivial
 | _::_,h=>by
  simp only [aK,yh] at h;exact ⟨qG h.1,Ih h.2⟩
end
end
end
section
open Go (IntKind)
section
variable {pre x post:List Nat} {i:Nat}
def ph:(pre++x++post).length=pre.length+x.length+post.length:=by grind
def CR (h:i<x.length):(pre++x++post).getD (pre.length+i) 0=x.getD i 0:=by grind
def Nq (a:Nat) (h:i<x.length):(pre++x++post).set (pre.length+i) a=pre++x.set i a++post:=by simp_all
end
def mg (n:Nat) (k:y7) (a:Int):below n (.int k a)=True:=rfl
def mT (n id o k:Nat):below n (.aw id o k)=(id<n):=rfl
def mb (n:Nat):qS n []=True:=rfl
def lZ (n i:Nat) (v:AV) (r:Env):qS n ((i,v)::r)=(below n v/\qS n r):=rfl
def qK {live:List Nat} {tm:Env} {ct:Nat} {a b:List AV} (ht:qS 2 (cC tm live)) (hl:(fL (cC tm live)).length<100000):
  aJ live ⟨tm,[(1,.cells true true true 1 a),(0,.cells true true true 1 b)],ct,2⟩=⟨cC tm live,[(1,.cells true true true 1 a),(0,.cells true true true 1 b)],2,2⟩:=
 abK ht ⟨by omega,.inl rfl,by omega,.inl rfl,trivial⟩ (by
  have:jr 2 [(1,Obj.cells true true true 1 a),(0,Obj.cells true true true 1 b)]=[]:=rfl
  rw [this,yP,y5];exact hl)
section
variable {P:aM} {L:Lib}
def apz {x s c:Nat} (hs:s<64) (hx:x<18446744073709551616) (hc:c<2^s):
  c|||(x*2^s%18446744073709551616)<18446744073709551616/\c<18446744073709551616/\x/2^(64-s)<2^s/\(c|||(x*2^s%18446744073709551616))+18446744073709551616*(x/2^(64-s))=x*2^s+c:=by
 have e:18446744073709551616=2^(64-s)*2^s:=by rw [<-wL,show 64-s+s=64 by omega]
 have h1:x*2^s%18446744073709551616=(x%2^(64-s))*2^s:=by rw [e,vM]
 have h2:x/2^(64-s)<2^s:=by
  refine (xV (wC _)).2 ?_
  grind
 have h3:c|||(x*2^s%18446744073709551616)=(x%2^(64-s))*2^s+c:=by rw [h1,ybN,Tq hc]
 have h4:(x%2^(64-s))*2^s+c<18446744073709551616:=by
  have:=yQ (2^s) (show x%2^(64-s)+1<=2^(64-s) from xE _ (wC _))
  grind
 have h5:=tx x (2^(64-s))
 grind
def ayF {v:AV} {w:List Nat} (hv:bV v w) (hw:lo 18446744073709551616 w) (lw:w.length<=99999999999) {s n:Nat} (hs:s<64) (hn:n=w.length+1):
  ∀k st,(∃(i:Nat) (out:List Nat),aJ [1,5,12,13,14] st=⟨[(1,ab s),(5,.aw 0 0 n),(12,v),(13,ab w.length),(14,ab i)],[(0,.cells true true true 1 (out.map uc))],1,0⟩/\i+k=w.length/\out.length=n/\lo 18446744073709551616 out/\bv 18446744073709551616 out=bv 18446744073709551616 (w.take i)*2^s/\out.getD i 0<2^s/\(∀m,i<m->out.getD m 0=0))->
   ∃ex st',D P L (.loop [1,5,12,13,14] E7) st=some (ex,st')/\∃tm out,st'=⟨tm,[(0,.cells true true true 1 (out.map uc))],1,0⟩/\ex= .exit 0/\af tm 5= .aw 0 0 n/\out.length=n/\lo 18446744073709551616 out/\bv 18446744073709551616 out=bv 18446744073709551616 w*2^s:=by
 intro dq sq;generalize a8:aJ [1,5,12,13,14] sq=s0;revert a8 s0 sq dq;apply cY;rintro k st ⟨i,out,rfl,hk,hlen,bk,aT,hc,gK⟩;by_cases hi:i<w.length
 ·left
  have gx:=ia (show 0<18446744073709551616 by decide) hw i;have ex:=hv.aU hi;have ec:=zU (l:=out) (o:=i) (by omega);have a6:=nR (b:=18446744073709551616) (l:=out) (i:=i) (x:=out.getD i 0|||(w.getD i 0*2^s%18446744073709551616)) (by omega);have hz:out.getD (i+1) 0=0:=gK _ (by omega);have eU:=jt (b:=18446744073709551616) (l:=w) i;generalize out.getD i 0=c at*
  generalize w.getD i 0=x at*
  obtain ⟨s1,s2,s3,s4⟩:=apz hs gx hc;have o1:=KN .i64 x (s:=s) (by omega);have o2:=orU s2 (xE (x*2^s) (by decide));have o3:binOp .sub (.int .i64 64) (ab s)=some (ab (64-s:Nat)):=by
   rw [Nn,wrap64 (by omega) (by omega)];congr 2;omega
  have o4:=KO .i64 x (s:=64-s) (by omega);generalize qd:c|||(x*2^s%18446744073709551616)=c' at*
  by_cases h0:0<s
  ·have N7:=nR (b:=18446744073709551616) (l:=out.set i c') (i:=i+1) (x:=x/2^(64-s)) (by simp;omega);rw [pg (by omega),hz,xH,y5] at N7;have aB1:x/2^(64-s)<18446744073709551616:=wJ (vB _ _) gx;generalize x/2^(64-s)=y at*
   simp only [go_sem,ya,yf,E7,show (i:Int)<w.length by omega,ex,bN 0 0 (show i<n by omega),ye,ec,o1,o2,kz (l:=out) (o:=i) (by omega),show (0:Int)<(s:Int) by omega,show (i:Int)+1=((i+1:Nat):Int) from rfl,wrapN (n:=i+1) (by omega),o3,o4,bN 0 0 (show i+1<n by omega),kz (l:=out.set i c') (o:=i+1) (by simp;omega)];refine ⟨_,k-1,rfl,by omega,i+1,(out.set i c').set (i+1) y,by simp only [go_sem,ya,yb,av,aq hv.pu,au _ hv.pu]<;>rfl,by omega,by simp [hlen],mf (mf bk s1) aB1,?_,by rw [apa (by simp;omega)];exact s3,fun m hm=>by rw [pg (by omega),pg (by omega)];exact gK m (by omega)⟩
   rw [eU,wE,N7,<-aT,xd,xp,xp (18446744073709551616^i)];have e:=congrArg (fun t=>18446744073709551616^i*t) s4;simp only [xG] at e;generalize 18446744073709551616^i*(18446744073709551616*y)=p1 at*
   generalize 18446744073709551616^i*(x*2^s)=p2 at*
   generalize 18446744073709551616^i*c'=p3 at*
   omega
  ·have As:s=0:=by omega
   subst As;have kZ:c=0:=by simpa using hc
   have AF:x/2^(64-0)=0:=wM gx;rw [AF,xH,y5,ybC,yf] at s4
   simp only [go_sem,ya,yf,E7,show (i:Int)<w.length by omega,ex,bN 0 0 (show i<n by omega),ye,ec,o1,o2,kz (l:=out) (o:=i) (by omega),show ¬(0:Int)<((0:Nat):Int) by omega,show (i:Int)+1=((i+1:Nat):Int) from rfl,wrapN (n:=i+1) (by omega)];refine ⟨_,k-1,rfl,by omega,i+1,out.set i c',by simp only [go_sem,ya,yb,av,aq hv.pu,au _ hv.pu]<;>rfl,by omega,by simp [hlen],mf bk s1,?_,by rw [pg (by omega),hz];exact wC _,fun m hm=>by rw [pg (by omega)];exact gK m (by omega)⟩
   rw [ybC,yf] at aT ⊢;rw [eU,<-aT];rw [kZ,xH,y5] at a6;rw [a6,s4,kZ,y5]
 ·right
  have:i=w.length:=by omega
  subst this;rw [xB] at aT;simp only [go_sem,ya,E7,show ¬(w.length:Int)<w.length by omega];exact ⟨_,_,rfl,by simp,_,out,rfl,rfl,by simp only [go_sem,ya],hlen,bk,aT⟩
def ak7 (h:Has P L 168 Ox) {v:AV} {w:List Nat} (hv:bV v w) (hw:lo 18446744073709551616 w) (lw:w.length<=99999999999) {s:Nat} (hs:s<64):
  ∃out,aj P L 168 [v,ab s] (.bw true 1 (w.length+1) (out.map uc))/\out.length=w.length+1/\lo 18446744073709551616 out/\bv 18446744073709551616 out=bv 18446744073709551616 w*2^s:=by
 obtain ⟨n,hn⟩:∃n,n=w.length+1:=⟨_,rfl⟩;unfold aj;rw [aI h]
 simp only [go_sem,ya,yb,Ox,hv.len,wrapN (n:=n) (by omega),show (w.length:Int)+1=((w.length+1:Nat):Int) from rfl,<-hn,DI (n:=n) _ (by omega)];generalize hq:D P L (.loop [1,5,12,13,14] E7) _=q;obtain ⟨ex,st,rfl,tm,o,rfl,rfl,t5,hlen,bk,aT⟩:=bq hq (ayF (P:=P) (L:=L) hv hw lw hs hn w.length)
  ⟨0,yk n 0,by simp only [go_sem,ya,yb,av,aq hv.pu,au _ hv.pu]<;>rfl,by omega,by simp,Fu (by decide) n,by rw [Fv];simp [bv],by rw [CQ];exact wC _,fun m _=>CQ n m⟩
 refine ⟨o,?_,hlen,bk,aT⟩;simp only [go_sem,yb,av,t5];exact rO (gZ _ _ _) (by simp [hlen]) (by decide)
end
end
section
open Go (IntKind)
abbrev H2 (a b:List Nat):Hp:=[(1,.cells true true true 1 (a.map uc)),(0,.cells true true true 1 (b.map uc))]
structure ik (x vs:List Nat) (n v1 v2 u0 u1 u2:Nat):Prop where
 n2:2<=n
 nb:n<=99999999999
 lx:x.length=n+1
 lv:vs.length=n
 gx:lo 18446744073709551616 x
 gv:lo 18446744073709551616 vs
 fb:vs.getD (n-1) 0=v1
 dF:vs.getD (n-2) 0=v2
 h0:x.getD n 0=u0
 h1:x.getD (n-1) 0=u1
 h2:x.getD (n-2) 0=u2
 pos:0<v1
 lt:bv 18446744073709551616 x<18446744073709551616*bv 18446744073709551616 vs
def aAI (b p a v1 v2:Nat):a+p*v2+p*b*v1=(v1*b+v2)*p+a:=by grind
def aAJ (b p a v0 v1 v2:Nat):a+p*v2+p*b*v1+p*b*b*v0=((v0*b+v1)*b+v2)*p+a:=by grind
section
variable {x vs:List Nat} {n v1 v2 u0 u1 u2:Nat}
def ik.LB (h:ik x vs n v1 v2 u0 u1 u2):v1<18446744073709551616:=h.fb▸ia (by decide) h.gv _
def ik.Ea (h:ik x vs n v1 v2 u0 u1 u2):v2<18446744073709551616:=h.dF▸ia (by decide) h.gv _
def ik.LC (h:ik x vs n v1 v2 u0 u1 u2):u1<18446744073709551616:=h.h1▸ia (by decide) h.gx _
def ik.LD (h:ik x vs n v1 v2 u0 u1 u2):u2<18446744073709551616:=h.h2▸ia (by decide) h.gx _
def ik.parts (h:ik x vs n v1 v2 u0 u1 u2):∃p vr ur,bv 18446744073709551616 vs=(v1*18446744073709551616+v2)*p+vr/\vr<p/\bv 18446744073709551616 x=((u0*18446744073709551616+u1)*18446744073709551616+u2)*p+ur/\ur<p:=by
 obtain ⟨m,hm⟩:∃m,n=m+2:=⟨n-2,by have:=h.n2;omega⟩;subst hm;have e1:=jt (b:=18446744073709551616) (l:=vs) (m+1);have e2:=jt (b:=18446744073709551616) (l:=vs) m;have f0:=jt (b:=18446744073709551616) (l:=x) (m+2);have f1:=jt (b:=18446744073709551616) (l:=x) (m+1);have f2:=jt (b:=18446744073709551616) (l:=x) m;have fb:vs.getD (m+1) 0=v1:=h.fb;have dF:vs.getD m 0=v2:=h.dF;have h0:x.getD (m+2) 0=u0:=h.h0;have h1:x.getD (m+1) 0=u1:=h.h1;have h2:x.getD m 0=u2:=h.h2
 rw [yC (by have:=h.lv;omega),fb,e2,dF] at e1
 rw [yC (by have:=h.lx;omega),h0,f1,h1,f2,h2] at f0;have g1:=mj (A6 h.gv m)
 rw [yy,xm (by have:=h.lv;omega)] at g1;have g2:=mj (A6 h.gx m)
 rw [yy,xm (by have:=h.lx;omega)] at g2;refine ⟨18446744073709551616^m,_,_,?_,g1,?_,g2⟩
 ·grind
 ·grind
def ik.down (h:ik x vs n v1 v2 u0 u1 u2) {t r:Nat} (ht:t*v1+r=u0*18446744073709551616+u1) (hr:r*18446744073709551616+u2<t*v2):bv 18446744073709551616 x/bv 18446744073709551616 vs<=t-1:=by
 obtain ⟨p,vr,ur,h1,h2,h3,h4⟩:=h.parts;exact aca h1 h3 h4 ht hr
def ik.stop (h:ik x vs n v1 v2 u0 u1 u2) {t r:Nat} (kw:t<18446744073709551616) (ht:t*v1+r=u0*18446744073709551616+u1) (hr:18446744073709551616<=r\/t*v2<=r*18446744073709551616+u2):t<=bv 18446744073709551616 x/bv 18446744073709551616 vs+1:=by
 obtain ⟨p,vr,ur,h1,h2,h3,h4⟩:=h.parts;exact acV (by decide) h1 h2 h3 h.pos h.Ea kw ht hr
def ik.first (h:ik x vs n v1 v2 u0 u1 u2):bv 18446744073709551616 x/bv 18446744073709551616 vs<=(u0*18446744073709551616+u1)/v1:=by
 obtain ⟨p,vr,ur,h1,h2,h3,h4⟩:=h.parts;exact Ru h1 h3 h4 h.LD h.pos
def ik.top (h:ik x vs n v1 v2 u0 u1 u2):u0<=v1:=by
 obtain ⟨p,vr,ur,h1,h2,h3,h4⟩:=h.parts;exact acW h1 h3 h2 h.Ea h.lt
def ik.digit (h:ik x vs n v1 v2 u0 u1 u2):bv 18446744073709551616 x/bv 18446744073709551616 vs<18446744073709551616:=by
 refine (xV ?_).2 h.lt;rcases xq (bv 18446744073709551616 vs) with h0 | h0
 ·have:=h.lt;rw [h0] at this;simp at this
 ·exact h0
end
section
variable {P:aM} {L:Lib}
def aiM (mw:L.pure 143=some r8) (gT:L.pure 171=some nP) {w:AV} {x vs pre post qs:List Nat} (hw:bV w vs) {n v1 v2 u0 u1 u2:Nat} (hl:ik x vs n v1 v2 u0 u1 u2):
  ∀k s,(∃q r:Nat,aJ [0,1,5,6,7,8] s=⟨[(0,.aw 0 pre.length (n+1)),(1,w),(5,ab n),(6,uc q),(7,uc (r%18446744073709551616)),(8,uc (r/18446744073709551616))],H2 qs (pre++x++post),2,2⟩/\q*v1+r=u0*18446744073709551616+u1/\r<2*18446744073709551616/\q<18446744073709551616/\bv 18446744073709551616 x/bv 18446744073709551616 vs<=q/\q=k)->
   ∃ex s',D P L (.loop [0,1,5,6,7,8] zK) s=some (ex,s')/\∃tm q,s'=⟨tm,H2 qs (pre++x++post),2,2⟩/\ex= .exit 0/\af tm 0= .aw 0 pre.length (n+1)/\af tm 1=w/\af tm 5=ab n/\af tm 6=uc q/\q<18446744073709551616/\bv 18446744073709551616 x/bv 18446744073709551616 vs<=q/\q<=bv 18446744073709551616 x/bv 18446744073709551616 vs+1:=by
 intro dq sq;generalize a8:aJ [0,1,5,6,7,8] sq=s0;revert a8 s0 sq dq;apply cY;rintro k s ⟨q,r,rfl,hq,hr,oI,hQ,rfl⟩;have eB:=hl.n2;have p0:=hl.nb;by_cases eN:r<18446744073709551616
 ·have GX:r%18446744073709551616=r:=yX eN;have Cg:r/18446744073709551616=0:=wM eN;rw [GX,Cg];have Gl:=hl.LB;have YW:=hl.Ea;have ak8:=hl.LD;have qg:=hw.aU (i:=n-2) (by have:=hl.lv;omega);have fc:=hw.aU (i:=n-1) (by have:=hl.lv;omega);rw [hl.dF] at qg;rw [hl.fb] at fc;have ze:=zU (l:=pre++x++post) (o:=pre.length+(n-2)) (by rw [ph];have:=hl.lx;omega)
  rw [CR (by have:=hl.lx;omega),hl.h2] at ze;have f1:=NK (P:=P) (f:=D P L) mw oI YW;have f2:=Dg (P:=P) (f:=D P L) gT (x:=r) (y:=v1) (c:=0) eN Gl (by omega);rw [show (uc 0)=AV.int .u64 0 from rfl] at f2;have fW:=xR (q*v2) 18446744073709551616;have bk:=xE (q*v2) (show 0<18446744073709551616 by decide);obtain ⟨H,hH⟩:∃H,H=q*v2/18446744073709551616:=⟨_,rfl⟩;obtain ⟨G,hG⟩:∃G,G=q*v2%18446744073709551616:=⟨_,rfl⟩;rw [<-hH,<-hG] at f1 fW;rw [<-hG] at bk;have AG:(n:Int)-2=((n-2:Nat):Int):=by omega
  have qh:(n:Int)-1=((n-1:Nat):Int):=by omega
  by_cases c1:H<r
  ·right
   simp only [go_sem,ya,zK,H2,show ((0:Nat):Int)=0 from rfl,AG,wrapN (n:=n-2) (by omega),qg,f1,show (H:Int)<(r:Int) by omega];exact ⟨_,_,rfl,by simp,_,q,rfl,rfl,by simp only [go_sem,ya],by simp only [go_sem,ya],by simp only [go_sem,ya],by simp only [go_sem,ya],oI,hQ,hl.stop oI hq (.inr (by omega))⟩
  ·by_cases c2:H=r/\G<=u2
   ·right
    obtain ⟨c2,c3⟩:=c2
    simp only [go_sem,ya,zK,H2,show ((0:Nat):Int)=0 from rfl,AG,wrapN (n:=n-2) (by omega),qg,f1,show (H:Int)=(r:Int) by omega];simp only [show ¬(r:Int)<(r:Int) by omega,ym]
    simp only [go_sem,ya,yf,AG,wrapN (n:=n-2) (by omega),bN 0 pre.length (show n-2<n+1 by omega),ze,show (G:Int)<=(u2:Int) by omega];exact ⟨_,_,rfl,by simp,_,q,rfl,rfl,by simp only [go_sem,ya],by simp only [go_sem,ya],by simp only [go_sem,ya],by simp only [go_sem,ya],oI,hQ,hl.stop oI hq (.inr (by omega))⟩
   ·left
    have GJ:r*18446744073709551616+u2<q*v2:=by omega
    have a8:0<q:=by
     rcases xq q with h0 | h0
     ·subst h0;omega
     ·exact h0
    have e3:binOp .sub (uc q) (.int .u64 1)=some (uc (q-1)):=DJ (b:=1) (by omega) (by omega);have h1:(q-1)*v1+(r+v1)=u0*18446744073709551616+u1:=by
     obtain ⟨p,rfl⟩:∃p,q=p+1:=⟨q-1,by omega⟩;rw [wE,Nat.one_mul] at hq;rw [tE];omega
    have Eb:=hl.down hq GJ;rw [y5] at f2;by_cases c3:H=r
    ·have c4:¬G<=u2:=fun h=>c2 ⟨c3,h⟩
     subst c3
     simp only [go_sem,ya,xn,yf,zK,H2,show ((0:Nat):Int)=0 from rfl,AG,qh,wrapN (n:=n-2) (by omega),wrapN (n:=n-1) (by omega),qg,fc,f1,f2,show ¬(H:Int)<(H:Int) by omega,bN 0 pre.length (show n-2<n+1 by omega),ze,show ¬(G:Int)<=(u2:Int) by omega,e3];refine ⟨_,q-1,rfl,by omega,q-1,H+v1,?_,h1,by omega,by omega,Eb,rfl⟩;rw [qK (by simp only [go_sem,ya,yF,mg,mT,mb,lZ,qG hw.pu,vl]) (by simp only [go_sem,ya,yb,yF,aq hw.pu])];simp only [go_sem,ya]
    ·simp only [go_sem,ya,xn,zK,H2,show ((0:Nat):Int)=0 from rfl,AG,qh,wrapN (n:=n-2) (by omega),wrapN (n:=n-1) (by omega),qg,fc,f1,f2,show ¬(H:Int)<(r:Int) by omega,show ¬(H:Int)=(r:Int) by omega,e3];refine ⟨_,q-1,rfl,by omega,q-1,r+v1,?_,h1,by omega,by omega,Eb,rfl⟩;rw [qK (by simp only [go_sem,ya,yF,mg,mT,mb,lZ,qG hw.pu,vl]) (by simp only [go_sem,ya,yb,yF,aq hw.pu])];simp only [go_sem,ya]
 ·right
  have Cg:r/18446744073709551616=1:=by omega
  rw [Cg];simp only [go_sem,ya,zK,H2,show ((1:Nat):Int)=1 from rfl,Int.reduceEq];exact ⟨_,_,rfl,by simp,_,q,rfl,rfl,by simp only [go_sem,ya],by simp only [go_sem,ya],by simp only [go_sem,ya],by simp only [go_sem,ya],oI,hQ,hl.stop oI hq (.inl (by omega))⟩
end
end
section
open Go (IntKind)
def aq0 {b p x y z nD c bo AH ca q v X Y:Nat} (h1:q*v+c=b*ca+nD) (h2:z+nD+bo=x+b*AH) (h3:Y+q*X=y+p*(c+bo)) (W:Nat) (hW:W+p*x=Y+p*z):
  W+q*(X+p*v)=y+p*b*(ca+AH):=by grind
def aq1 {q v c:Nat} (hq:q<18446744073709551616) (hv:v<18446744073709551616) (hc:c<18446744073709551616):
  q*v+c=18446744073709551616*(q*v/18446744073709551616+(q*v%18446744073709551616+c+0)/18446744073709551616)+(q*v%18446744073709551616+c+0)%18446744073709551616/\
  q*v/18446744073709551616+(q*v%18446744073709551616+c+0)/18446744073709551616<18446744073709551616:=by
 have h:=wu (show q<=18446744073709551615 by omega) (show v<=18446744073709551615 by omega)
 grind
section
variable {P:aM} {L:Lib}
def ayG (mw:L.pure 143=some r8) (gT:L.pure 171=some nP) (sK:L.pure 173=some Bb) {w:AV} {x vs pre post qs:List Nat} (hw:bV w vs) {n:Nat} (p0:n<=99999999999) (lv:vs.length=n) (gv:lo 18446744073709551616 vs) {q:Nat} (hq:q<18446744073709551616):
  ∀k s,(∃(i c bo:Nat) (y:List Nat),aJ [0,1,5,6,11,12,104,105] s=⟨[(0,.aw 0 pre.length (n+1)),(1,w),(5,ab n),(6,uc q),(11,uc bo),(12,uc c),(104,ab n),(105,ab i)],H2 qs (pre++y++post),2,2⟩/\i+k=n/\y.length=n+1/\lo 18446744073709551616 y/\c<18446744073709551616/\bo<=1/\
    bv 18446744073709551616 y+q*bv 18446744073709551616 (vs.take i)=bv 18446744073709551616 x+18446744073709551616^i*(c+bo))->
   ∃ex s',D P L (.loop [0,1,5,6,11,12,104,105] Jd) s=some (ex,s')/\∃tm c bo y,s'=⟨tm,H2 qs (pre++y++post),2,2⟩/\ex= .exit 2/\af tm 0= .aw 0 pre.length (n+1)/\af tm 1=w/\af tm 5=ab n/\af tm 6=uc q/\af tm 11=uc bo/\af tm 12=uc c/\y.length=n+1/\lo 18446744073709551616 y/\c<18446744073709551616/\bo<=1/\
    bv 18446744073709551616 y+q*bv 18446744073709551616 vs=bv 18446744073709551616 x+18446744073709551616^n*(c+bo):=by
 intro dq sq;generalize a8:aJ [0,1,5,6,11,12,104,105] sq=s0;revert a8 s0 sq dq;apply cY;rintro k s ⟨i,c,bo,y,rfl,hk,ly,gy,hc,jk,aT⟩;by_cases hi:i<n
 ·left
  have dY:(0:Nat)<18446744073709551616:=by decide
  have rG:=ia dY gv i;have qj:=ia dY gy i;have ev:=hw.aU (i:=i) (by omega);have ey:=zU (l:=pre++y++post) (o:=pre.length+i) (by rw [ph];omega);rw [CR (by omega)] at ey;have eU:=jt (b:=18446744073709551616) (l:=vs) i;obtain ⟨a,ha⟩:∃a,a=vs.getD i 0:=⟨_,rfl⟩;obtain ⟨d,hd⟩:∃d,d=y.getD i 0:=⟨_,rfl⟩;rw [<-ha] at rG ev eU;rw [<-hd] at qj ey;obtain ⟨m1,m2⟩:=aq1 hq rG hc;have f1:=NK (P:=P) (f:=D P L) mw hq rG;have f2:=Dg (P:=P) (f:=D P L) gT (x:=q*a%18446744073709551616) (y:=c) (c:=0) (xE _ dY) hc (by omega);obtain ⟨nD,ak9⟩:∃t,t=(q*a%18446744073709551616+c+0)%18446744073709551616:=⟨_,rfl⟩;obtain ⟨c1,eC⟩:∃t,t=(q*a%18446744073709551616+c+0)/18446744073709551616:=⟨_,rfl⟩;have ala:nD<18446744073709551616:=by rw [ak9];exact xE _ dY
  rw [<-ak9,<-eC] at f2 m1;rw [<-eC] at m2;obtain ⟨h1,je⟩:∃t,t=q*a/18446744073709551616:=⟨_,rfl⟩;rw [<-je] at f1 m1 m2;rw [show (uc 0)=AV.int .u64 0 from rfl] at f2;have f3:=Tp (P:=P) (f:=D P L) sK qj ala jk;have mH:=Sr qj ala jk;obtain ⟨z,hz⟩:∃t,t=(d+18446744073709551616*2-nD-bo)%18446744073709551616:=⟨_,rfl⟩;obtain ⟨b',cK⟩:∃t,t=(if nD+bo<=d then 0 else 1):=⟨_,rfl⟩;have mC:b'<=1:=by rw [cK];split<;>omega
  have GV:z<18446744073709551616:=by rw [hz];exact xE _ dY
  rw [<-hz,<-cK] at f3 mH;have f4:binOp .add (uc h1) (uc c1)=some (uc (h1+c1)):=by
   rw [Bs,yX m2]
  have a6:=nR (b:=18446744073709551616) (l:=y) (i:=i) (x:=z) (by omega);rw [<-hd] at a6;have aO:=fun (hp:Hp) (ct:Nat)=>kz (hp:=hp) (ct:=ct) (id:=0) (v:=z) (ex:=true) (l:=pre++y++post) (o:=pre.length+i) (by rw [ph];omega)
  have n9:=Nq (pre:=pre) (x:=y) (post:=post) (i:=i) z (by omega);simp only [go_sem,ya,yf,Jd,H2,show (i:Int)<(n:Int) by omega,ev,f1,f2,f4,bN 0 pre.length (show i<n+1 by omega),ey,f3,aO,n9];refine ⟨_,k-1,rfl,by omega,i+1,h1+c1,b',y.set i z,?_,by omega,by simp [ly],mf gy GV,m2,mC,?_⟩
  ·rw [qK (by simp only [go_sem,ya,yF,mg,mT,mb,lZ,qG hw.pu,vl]) (by simp only [go_sem,ya,yb,yF,aq hw.pu])];rw [wrap64 (by omega) (by omega)];simp only [go_sem,ya]<;>rfl
  ·rw [eU,xd];exact aq0 m1 mH aT _ a6
 ·right
  have:i=n:=by omega
  subst this;rw [yC (by omega)] at aT;simp only [go_sem,ya,Jd,H2,show ¬(i:Int)<(i:Int) by omega];exact ⟨_,_,rfl,by simp,_,c,bo,y,rfl,rfl,by simp only [go_sem,ya],by simp only [go_sem,ya],by simp only [go_sem,ya],by simp only [go_sem,ya],by simp only [go_sem,ya],by simp only [go_sem,ya],ly,gy,hc,jk,aT⟩
def ayH (gT:L.pure 171=some nP) {w:AV} {y0 vs pre post qs:List Nat} (hw:bV w vs) {n:Nat} (p0:n<=99999999999) (lv:vs.length=n) (gv:lo 18446744073709551616 vs) {q:Nat}:
  ∀k s,(∃(i c:Nat) (y:List Nat),aJ [0,1,5,6,17,156,157] s=⟨[(0,.aw 0 pre.length (n+1)),(1,w),(5,ab n),(6,uc q),(17,uc c),(156,ab n),(157,ab i)],H2 qs (pre++y++post),2,2⟩/\i+k=n/\y.length=n+1/\lo 18446744073709551616 y/\c<=1/\
    bv 18446744073709551616 y+18446744073709551616^i*c=bv 18446744073709551616 y0+bv 18446744073709551616 (vs.take i))->
   ∃ex s',D P L (.loop [0,1,5,6,17,156,157] Je) s=some (ex,s')/\∃tm c y,s'=⟨tm,H2 qs (pre++y++post),2,2⟩/\ex= .exit 4/\af tm 0= .aw 0 pre.length (n+1)/\af tm 5=ab n/\af tm 6=uc q/\af tm 17=uc c/\y.length=n+1/\lo 18446744073709551616 y/\c<=1/\
    bv 18446744073709551616 y+18446744073709551616^n*c=bv 18446744073709551616 y0+bv 18446744073709551616 vs:=by
 intro dq sq;generalize a8:aJ [0,1,5,6,17,156,157] sq=s0;revert a8 s0 sq dq;apply cY;rintro k s ⟨i,c,y,rfl,hk,ly,gy,hc,aT⟩;by_cases hi:i<n
 ·left
  have dY:(0:Nat)<18446744073709551616:=by decide
  have rG:=ia dY gv i;have qj:=ia dY gy i;have ev:=hw.aU (i:=i) (by omega);have ey:=zU (l:=pre++y++post) (o:=pre.length+i) (by rw [ph];omega);rw [CR (by omega)] at ey;have eU:=jt (b:=18446744073709551616) (l:=vs) i;obtain ⟨a,ha⟩:∃a,a=vs.getD i 0:=⟨_,rfl⟩;obtain ⟨d,hd⟩:∃d,d=y.getD i 0:=⟨_,rfl⟩;rw [<-ha] at rG ev eU;rw [<-hd] at qj ey;have f1:=Dg (P:=P) (f:=D P L) gT qj rG hc;have a6:=nR (b:=18446744073709551616) (l:=y) (i:=i) (x:=(d+a+c)%18446744073709551616) (by omega);rw [<-hd] at a6;have ji:=MA (18446744073709551616^i) 18446744073709551616 (d+a+c);have qd:(d+a+c)/18446744073709551616<=1:=by omega
  have GV:(d+a+c)%18446744073709551616<18446744073709551616:=xE _ dY;generalize (d+a+c)%18446744073709551616=z at*
  generalize (d+a+c)/18446744073709551616=c' at*
  have aO:=fun (hp:Hp) (ct:Nat)=>kz (hp:=hp) (ct:=ct) (id:=0) (v:=z) (ex:=true) (l:=pre++y++post) (o:=pre.length+i) (by rw [ph];omega)
  have n9:=Nq (pre:=pre) (x:=y) (post:=post) (i:=i) z (by omega);simp only [go_sem,ya,yf,Je,H2,show (i:Int)<(n:Int) by omega,ev,f1,bN 0 pre.length (show i<n+1 by omega),ey,aO,n9];refine ⟨_,k-1,rfl,by omega,i+1,c',y.set i z,?_,by omega,by simp [ly],mf gy GV,qd,?_⟩
  ·rw [qK (by simp only [go_sem,ya,yF,mg,mT,mb,lZ,qG hw.pu,vl]) (by simp only [go_sem,ya,yb,yF,aq hw.pu])];rw [wrap64 (by omega) (by omega)];simp only [go_sem,ya]<;>rfl
  ·rw [eU,xd];rw [xG,xG] at ji;omega
 ·right
  have:i=n:=by omega
  subst this;rw [yC (by omega)] at aT;simp only [go_sem,ya,Je,H2,show ¬(i:Int)<(i:Int) by omega];exact ⟨_,_,rfl,by simp,_,c,y,rfl,rfl,by simp only [go_sem,ya],by simp only [go_sem,ya],by simp only [go_sem,ya],by simp only [go_sem,ya],ly,gy,hc,aT⟩
end
end
section
open Go (IntKind)
def step_end {A V q Y B bo:Nat} (hV:0<V) (h:Y+q*V=A+B*bo) (h1:A/V<=q) (h2:q<=A/V+1) (hY:Y<B) (hVB:V<=B) (jk:bo<=1):
  (bo=0->q=A/V/\Y=A%V)/\(bo=1->q=A/V+1/\Y+V=B+A%V):=by
 have fW:=xR A V;have hm:=xE A hV;generalize A/V=Q at*
 have hq:q=Q\/q=Q+1:=by omega
 constructor
 ·rintro rfl;rcases hq with rfl | rfl
  ·grind
  ·grind
 ·grind
section
variable {P:aM} {L:Lib}
structure Wd (P:aM) (L:Lib):Prop where
 mw:L.pure 143=some r8
 gT:L.pure 171=some nP
 sK:L.pure 173=some Bb
 KP:L.pure 167=some FB
 alb:Has P L 165 Kd
 mv:Has P L 166 BA
 alc:Has P L 168 Ox
 aB2:Has P L 169 sD
 ald:Has P L 158 FO
 aB3:Has P L 157 Kc
 ale:Has P L 159 Ov
 aB4:Has P L 144 Oq
 YX:Has P L 137 Ka
def aC:VC->VC
 | .seq _ b=>b
 | c=>c
def ayI (h:Wd P L) {w:AV} {x vs pre post qs:List Nat} (hw:bV w vs) {n v1 v2 u0 u1 u2:Nat} (hl:ik x vs n v1 v2 u0 u1 u2) {q:Nat} (hq:q<18446744073709551616) (fy:bv 18446744073709551616 x/bv 18446744073709551616 vs<=q) (qt:q<=bv 18446744073709551616 x/bv 18446744073709551616 vs+1):
  ∃tm x',D P L (aC (aC (aC (aC (aC (aC sD.body)))))) ⟨[(0,.aw 0 pre.length (n+1)),(1,w),(5,ab n),(6,uc q)],H2 qs (pre++x++post),2,2⟩=some (.ret,⟨tm,H2 qs (pre++x'++post),2,2⟩)/\af tm 4=uc (bv 18446744073709551616 x/bv 18446744073709551616 vs)/\x'.length=n+1/\lo 18446744073709551616 x'/\bv 18446744073709551616 x'=bv 18446744073709551616 x%bv 18446744073709551616 vs:=by
 have eB:=hl.n2;have p0:=hl.nb;have dY:(0:Nat)<18446744073709551616:=by decide
 have hV:0<bv 18446744073709551616 vs:=by
  rcases xq (bv 18446744073709551616 vs) with h0 | h0
  ·have:=hl.lt;rw [h0] at this;simp at this
  ·exact h0
 have zg:below 2 w:=qG hw.pu;have LF:=mj hl.gv;rw [hl.lv] at LF;have aIW:18446744073709551616^n<=18446744073709551616^(n+1):=yY (by decide) (by omega);have aIX:aC (aC (aC (aC (aC (aC sD.body)))))=aC (aC (aC (aC (aC (aC sD.body))))):=rfl;simp only [go_sem,ya,sD,aC,H2];generalize mG:D P L (.loop [0,1,5,6,11,12,104,105] Jd) _=qq;obtain ⟨ex,s,rfl,tm,c,bo,y,rfl,rfl,t0,t1,t5,t6,t11,t12,ly,gy,hc,jk,aT⟩:=bq mG (ayG (P:=P) (L:=L) h.mw h.gT h.sK hw p0 hl.lv hl.gv hq (x:=x) (pre:=pre) (post:=post) (qs:=qs) n) ⟨0,0,0,x,by
  rw [qK (by simp only [go_sem,ya,yF,mg,mT,mb,lZ,zg,vl]) (by simp only [go_sem,ya,yb,yF,aq hw.pu])]
  simp only [go_sem,ya]<;>rfl,by omega,hl.lx,hl.gx,dY,by omega,by simp [bv]⟩
 have gyn:=ia dY gy n;have ey:=zU (l:=pre++y++post) (o:=pre.length+n) (by rw [ph];omega);rw [CR (by omega)] at ey;obtain ⟨d,hd⟩:∃d,d=y.getD n 0:=⟨_,rfl⟩;rw [<-hd] at gyn ey;have f3:=Tp (P:=P) (f:=D P L) h.sK gyn hc jk;have mH:=Sr gyn hc jk;obtain ⟨z,hz⟩:∃t,t=(d+18446744073709551616*2-c-bo)%18446744073709551616:=⟨_,rfl⟩;obtain ⟨b',cK⟩:∃t,t=(if c+bo<=d then 0 else 1):=⟨_,rfl⟩;have mC:b'<=1:=by rw [cK];split<;>omega
 have GV:z<18446744073709551616:=by rw [hz];exact xE _ dY
 rw [<-hz,<-cK] at f3 mH;have a6:=nR (b:=18446744073709551616) (l:=y) (i:=n) (x:=z) (by omega);rw [<-hd] at a6;have aO:=fun (hp:Hp) (ct:Nat)=>kz (hp:=hp) (ct:=ct) (id:=0) (v:=z) (ex:=true) (l:=pre++y++post) (o:=pre.length+n) (by rw [ph];omega)
 have n9:=Nq (pre:=pre) (x:=y) (post:=post) (i:=n) z (by omega);have Ec:lo 18446744073709551616 (y.set n z):=mf gy GV;have Ch:(y.set n z).length=n+1:=by simp [ly]
 have hY:=mj Ec;rw [Ch] at hY;have aB5:bv 18446744073709551616 (y.set n z)+q*bv 18446744073709551616 vs=bv 18446744073709551616 x+18446744073709551616^(n+1)*b':=by
  have e2:=congrArg (fun t=>18446744073709551616^n*t) mH;rw [xd,xp];simp only [xG] at e2 aT;generalize 18446744073709551616^n*(18446744073709551616*b')=p1 at*
  generalize 18446744073709551616^n*z=p2 at*
  generalize 18446744073709551616^n*d=p3 at*
  generalize 18446744073709551616^n*c=p4 at*
  generalize 18446744073709551616^n*bo=p5 at*
  omega
 obtain ⟨s0,s1⟩:=step_end hV aB5 fy qt hY (by omega) mC;simp only [go_sem,ya,yb,yF,yf,qK,mg,mT,mb,lZ,zg,vl,aq hw.pu,t0,t1,t5,t6,t11,t12,bN 0 pre.length (show n<n+1 by omega),ey,f3,aO,n9];by_cases kB:b'=0
 ·obtain ⟨e1,e2⟩:=s0 kB;simp only [go_sem,ya,show (b':Int)=0 by omega];exact ⟨_,y.set n z,rfl,by rw [<-e1];simp only [go_sem],Ch,Ec,e2⟩
 ·obtain ⟨e1,e2⟩:=s1 (by omega);simp only [go_sem,ya,show ¬(b':Int)=0 by omega];generalize DK:D P L (.loop [0,1,5,6,17,156,157] Je) _=qq2;obtain ⟨ex,s,rfl,sR,c2,y2,rfl,rfl,t0,t5,t6,t17,ly2,QD,sZ,aAK⟩:=bq DK (ayH (P:=P) (L:=L) h.gT hw p0 hl.lv hl.gv (y0:=y.set n z) (pre:=pre) (post:=post) (qs:=qs) (q:=q) n) ⟨0,0,y.set n z,by
   rw [qK (by simp only [go_sem,ya,yF,mg,mT,mb,lZ,zg,vl]) (by simp only [go_sem,ya,yb,yF,aq hw.pu])]
   simp only [go_sem,ya]<;>rfl,by omega,Ch,Ec,by omega,by simp [bv]⟩
  have aB6:=ia dY QD n;have ey2:=zU (l:=pre++y2++post) (o:=pre.length+n) (by rw [ph];omega);rw [CR (by omega)] at ey2;obtain ⟨d2,il⟩:∃d,d=y2.getD n 0:=⟨_,rfl⟩;rw [<-il] at aB6 ey2;have f4:=Bs d2 c2;have N7:=nR (b:=18446744073709551616) (l:=y2) (i:=n) (x:=(d2+c2)%18446744073709551616) (by omega);rw [<-il] at N7;have ji:=MA (18446744073709551616^n) 18446744073709551616 (d2+c2);have aB7:(d2+c2)%18446744073709551616<18446744073709551616:=xE _ dY;have hc3:(d2+c2)/18446744073709551616<=1:=by omega
  generalize (d2+c2)%18446744073709551616=z2 at*
  generalize (d2+c2)/18446744073709551616=c3 at*
  have PG:=fun (hp:Hp) (ct:Nat)=>kz (hp:=hp) (ct:=ct) (id:=0) (v:=z2) (ex:=true) (l:=pre++y2++post) (o:=pre.length+n) (by rw [ph];omega)
  have N8:=Nq (pre:=pre) (x:=y2) (post:=post) (i:=n) z2 (by omega);have QE:lo 18446744073709551616 (y2.set n z2):=mf QD aB7;have LH:(y2.set n z2).length=n+1:=by simp [ly2]
  have hY3:=mj QE;rw [LH] at hY3;have a8:0<q:=by rw [e1];exact Nat.succ_pos _
  have oK:bv 18446744073709551616 x/bv 18446744073709551616 vs=q-1:=by rw [e1,tE]
  have f5:binOp .sub (uc q) (.int .u64 1)=some (uc (q-1)):=DJ (b:=1) (by omega) (by omega);simp only [go_sem,ya,yb,yF,yf,qK,mg,mT,mb,lZ,vl,t0,t5,t6,t17,bN 0 pre.length (show n<n+1 by omega),ey2,f4,PG,N8,f5];refine ⟨_,y2.set n z2,rfl,by rw [oK];simp only [go_sem],LH,QE,?_⟩;have e3:bv 18446744073709551616 (y2.set n z2)+18446744073709551616^(n+1)*c3=18446744073709551616^(n+1)+bv 18446744073709551616 x%bv 18446744073709551616 vs:=by
   rw [<-e2,<-aAK,xd];rw [xG] at ji;omega
  rcases (show c3=0\/c3=1 by omega) with rfl | rfl
  ·omega
  ·omega
def aB8 (h:Wd P L) {w:AV} {x vs pre post qs:List Nat} (hw:bV w vs) {n v1 v2 u0 u1 u2:Nat} (hl:ik x vs n v1 v2 u0 u1 u2):
  ∃x',hZ P L (D P L) (H2 qs (pre++x++post)) 2 169 [.aw 0 pre.length (n+1),w]=some (uc (bv 18446744073709551616 x/bv 18446744073709551616 vs),H2 qs (pre++x'++post),2)/\x'.length=n+1/\lo 18446744073709551616 x'/\bv 18446744073709551616 x'=bv 18446744073709551616 x%bv 18446744073709551616 vs:=by
 have eB:=hl.n2;have p0:=hl.nb;have zg:below 2 w:=qG hw.pu;have qh:(n:Int)-1=((n-1:Nat):Int):=by omega
 have fc:=hw.aU (i:=n-1) (by have:=hl.lv;omega);rw [hl.fb] at fc;have Ci:=zU (l:=pre++x++post) (o:=pre.length+n) (by rw [ph];have:=hl.lx;omega)
 rw [CR (by have:=hl.lx;omega),hl.h0] at Ci;have Cj:=zU (l:=pre++x++post) (o:=pre.length+(n-1)) (by rw [ph];have:=hl.lx;omega)
 rw [CR (by have:=hl.lx;omega),hl.h1] at Cj;have Gl:=hl.LB;have PH:=hl.LC;have oc:=hl.top;have jc:∃tm x',D P L sD.body ⟨dM 0 [.aw 0 pre.length (n+1),w],H2 qs (pre++x++post),2,2⟩=some (.ret,⟨tm,H2 qs (pre++x'++post),2,2⟩)/\af tm 4=uc (bv 18446744073709551616 x/bv 18446744073709551616 vs)/\x'.length=n+1/\lo 18446744073709551616 x'/\bv 18446744073709551616 x'=bv 18446744073709551616 x%bv 18446744073709551616 vs:=by
  have behind:∀(jP:Env) (q:Nat),af jP 0= .aw 0 pre.length (n+1)->af jP 1=w->af jP 5=ab n->af jP 6=uc q->q<18446744073709551616->bv 18446744073709551616 x/bv 18446744073709551616 vs<=q->q<=bv 18446744073709551616 x/bv 18446744073709551616 vs+1->
    ∃tm x',jL P L (jL P L (mX 0 (some (Ex.exit 0,⟨jP,H2 qs (pre++x++post),2,2⟩))) (.kp [0,1,5,6])) (aC (aC (aC (aC (aC (aC sD.body))))))=some (.ret,⟨tm,H2 qs (pre++x'++post),2,2⟩)/\af tm 4=uc (bv 18446744073709551616 x/bv 18446744073709551616 vs)/\x'.length=n+1/\lo 18446744073709551616 x'/\bv 18446744073709551616 x'=bv 18446744073709551616 x%bv 18446744073709551616 vs:=by
   intro jP q t0 t1 t5 t6 g1 g2 g3;have hk:cC jP [0,1,5,6]=[(0,.aw 0 pre.length (n+1)),(1,w),(5,ab n),(6,uc q)]:=by simp only [go_sem,t0,t1,t5,t6]
   rw [SJ,fK,YN,qK (by rw [hk];simp only [go_sem,yF,mg,mT,mb,lZ,zg,vl]) (by rw [hk];simp only [go_sem,yb,yF,aq hw.pu]),fK,hk];exact ayI h hw hl g1 g2 g3
  by_cases hc:u0<v1
  ·have f1:=ak6 h.alb h.KP (P:=P) (L:=L) hc PH Gl;have fW:=xR (u0*18446744073709551616+u1) v1;have sM:=xE (u0*18446744073709551616+u1) hl.pos;have oI:(u0*18446744073709551616+u1)/v1<18446744073709551616:=by
    refine (xV hl.pos).2 ?_
    have:=yQ 18446744073709551616 (show u0+1<=v1 from hc)
    rw [xJ 18446744073709551616 v1];omega
   have NL:=hl.first;rw [xJ] at fW;generalize (u0*18446744073709551616+u1)/v1=q0 at*
   generalize (u0*18446744073709551616+u1)%v1=r0 at*
   simp only [go_sem,ya,yf,sD,H2,hw.len,hl.lv,qh,wrapN (n:=n-1) (by omega),fc,bN 0 pre.length (show n<n+1 by omega),bN 0 pre.length (show n-1<n+1 by omega),Ci,Cj,show ¬(v1:Int)<=(u0:Int) by omega,f1];generalize mG:D P L (.loop [0,1,5,6,7,8] zK) _=qq;obtain ⟨ex,s,rfl,jP,q,rfl,rfl,t0,t1,t5,t6,g1,g2,g3⟩:=bq mG (aiM (P:=P) (L:=L) h.mw h.gT hw hl (pre:=pre) (post:=post) (qs:=qs) q0) ⟨q0,r0,by
    rw [qK (by simp only [go_sem,ya,yF,mg,mT,mb,lZ,zg,vl]) (by simp only [go_sem,ya,yb,yF,aq hw.pu])];rw [yX (show r0<18446744073709551616 by omega),wM (show r0<18446744073709551616 by omega)]
    simp only [go_sem,ya]<;>rfl,fW,by omega,oI,NL,rfl⟩
   exact behind jP q t0 t1 t5 t6 g1 g2 g3
  ·have mD:u0=v1:=by omega
   have f1:=Dg (P:=P) (f:=D P L) h.gT PH Gl (c:=0) (by omega);rw [y5,show (uc 0)=AV.int .u64 0 from rfl] at f1;have PI:=hl.digit
   simp only [go_sem,ya,yf,sD,H2,hw.len,hl.lv,qh,wrapN (n:=n-1) (by omega),fc,bN 0 pre.length (show n<n+1 by omega),bN 0 pre.length (show n-1<n+1 by omega),Ci,Cj,show (v1:Int)<=(u0:Int) by omega,f1];generalize mG:D P L (.loop [0,1,5,6,7,8] zK) _=qq;obtain ⟨ex,s,rfl,jP,q,rfl,rfl,t0,t1,t5,t6,g1,g2,g3⟩:=bq mG (aiM (P:=P) (L:=L) h.mw h.gT hw hl (pre:=pre) (post:=post) (qs:=qs) 18446744073709551615) ⟨18446744073709551615,u1+v1,by
    rw [qK (by simp only [go_sem,ya,yF,mg,mT,mb,lZ,zg,vl]) (by simp only [go_sem,ya,yb,yF,aq hw.pu])]
    simp only [go_sem,ya]<;>rfl,by rw [mD];omega,by omega,by decide,by omega,rfl⟩
   exact behind jP q t0 t1 t5 t6 g1 g2 g3
 obtain ⟨tm,x',g1,g2,g3,g4,g5⟩:=jc;refine ⟨x',?_,g3,g4,g5⟩;exact EU h.aB2 g1 (.inr rfl) (by show iT _ [RV.t 4]=_;rw [YO,TU,g2])
end
end
section
open Go (IntKind)
def WN (v:AV) (m:Nat):Prop:=∃l,bV v l/\lo 18446744073709551616 l/\gW l/\bv 18446744073709551616 l=m
def as4 (i:Nat) (q:List Nat) (x:Nat):(yk (i+1) 0++q).set i x=yk i 0++x::q:=by
 rw [List.replicate_succ',xA]
 simp_all
def Nr {b:Nat} {l:List Nat} {i:Nat} (h:i<l.length):bv b (l.drop i)=l.getD i 0+b*bv b (l.drop (i+1)):=by
 rw [yS h,gd h];rfl
def Tt {v w:AV} {x y:List Nat} (hv:bV v x) (hw:bV w y) (hp:Hp):result hp (.ae [v,w])=some (.ae [v,w]):=by
 rcases hv with ⟨rfl,_⟩ | ⟨e,rfl⟩<;>rcases hw with ⟨rfl,_⟩ | ⟨e',rfl⟩<;>rfl
def avd {hp:Hp} {id n l h:Nat} {pu ex:Bool} {cs:List AV} {tm:Env} {x y:X} (hg:ay hp id=some (.cells true pu ex 1 cs)) (hx:df tm 0 (some x)=some l) (hy:df tm n (some y)=some h) (h1:l<h) (h2:h<=n):
  fg hp (.sl 1) (.aw id 0 n) tm (some x) (some y)=some (.aw id l (h-l)):=by
 simp only [fg,hg,hx,hy,yu (uW h1),yu h2,wP,wT,yA,hX (Nat.ne_of_lt h1),xP,yV,ye,yf]
def ad9 {hp:Hp} {id n h:Nat} {pu ex:Bool} {cs:List AV} {tm:Env} {y:X} (hg:ay hp id=some (.cells true pu ex 1 cs)) (hy:df tm n (some y)=some h) (h1:0<h) (h2:h<=n):
  fg hp (.sl 1) (.aw id 0 n) tm none (some y)=some (.aw id 0 h):=by
 have hx:df tm 0 none=some 0:=rfl;simp only [fg,hg,hx,hy,yu (ue h),yu h2,wP,wT,yA,hX (show (0:Nat)≠h by omega),xP,yV,tQ,y5,Nat.sub_zero]
def aju (P:aM) (L:Lib) (f:cD) (hp:Hp) (ct n:Nat) (xs:List AV):dO P L f hp ct .heap (.fn (.f n) [] []) xs=hZ P L f hp ct n xs:=by
 simp only [dO,xC,wo]
section
variable {P:aM} {L:Lib}
def ayJ (h:Wd P L) {v w:AV} {x:List Nat} (hv:bV v x) (hx:lo 18446744073709551616 x) (lx:x.length<=99999999999) {d:Nat} (hw:bV w [d]) (iG:0<d) (hdW:d<18446744073709551616) {n:Nat} (hn:n=x.length):
  ∀k s,(∃(i r:Nat) (q:List Nat),aJ [0,1,6,7,8] s=⟨[(0,v),(1,w),(6,.aw 0 0 n),(7,uc r),(8,ab ((i:Int)-1))],[(0,.cells true true true 1 ((yk i 0++q).map uc))],1,0⟩/\i=k/\i+q.length=n/\lo 18446744073709551616 q/\r<d/\bv 18446744073709551616 (x.drop i)=bv 18446744073709551616 q*d+r)->
   ∃ex s',D P L (.loop [0,1,6,7,8] I9) s=some (ex,s')/\∃tm r q,s'=⟨tm,[(0,.cells true true true 1 (q.map uc))],1,0⟩/\ex= .exit 0/\af tm 6= .aw 0 0 n/\af tm 7=uc r/\q.length=n/\lo 18446744073709551616 q/\r<d/\bv 18446744073709551616 x=bv 18446744073709551616 q*d+r:=by
 intro dq sq;generalize a8:aJ [0,1,6,7,8] sq=s0;revert a8 s0 sq dq;apply cY;rintro k s ⟨i,r,q,rfl,rfl,hlen,bk,hr,aT⟩
 cases i with
 | zero=>
  right
  simp only [go_sem,ya,I9,show ¬(0:Int)<=((0:Nat):Int)-1 by omega];exact ⟨_,_,rfl,by simp,_,r,q,rfl,rfl,by simp only [go_sem,ya],by simp only [go_sem,ya],by omega,bk,hr,by simpa using aT⟩
 | succ i=>
  left
  have gx:=ia (show 0<18446744073709551616 by decide) hx i;have e1:=hv.aU (i:=i) (by omega);have e2:=hw.aU (i:=0) (by simp);have jj:=Nr (b:=18446744073709551616) (l:=x) (i:=i) (by omega);rw [show ([d]:List Nat).getD 0 0=d from rfl] at e2;generalize x.getD i 0=a at*
  have e3:=ak6 (P:=P) (L:=L) h.alb h.KP hr gx hdW;have fW:=xR (r*18446744073709551616+a) d;have sM:=xE (r*18446744073709551616+a) iG;have oI:(r*18446744073709551616+a)/d<18446744073709551616:=by
   refine (xV iG).2 ?_;omega
  generalize (r*18446744073709551616+a)/d=q1 at*
  generalize (r*18446744073709551616+a)%d=r1 at*
  have aO:=fun (hp:Hp) (ct:Nat)=>kz (hp:=hp) (ct:=ct) (id:=0) (v:=q1) (ex:=true) (l:=yk (i+1) 0++q) (o:=i) (by simp;omega)
  simp only [go_sem,ya,yf,I9,show ((i+1:Nat):Int)-1=(i:Int) by omega,show (0:Int)<=(i:Int) by omega,e1,e2,e3,bN 0 0 (show i<n by omega),ye,aO,as4];refine ⟨_,i,rfl,by omega,i,r1,q1::q,?_,rfl,by simp;omega,MJ.2 ⟨Ft.2 oI,bk⟩,sM,?_⟩
  ·rw [wrap64 (by omega) (by omega)];simp only [go_sem,ya,yb,av,aq hv.pu,au _ hv.pu,aq hw.pu,au _ hw.pu]<;>rfl
  ·rw [jj,aT];simp only [bv];rw [wE,xG,<-xp 18446744073709551616];rw [xJ d q1] at fW;omega
def aq2 {s u u1:Nat} (hs:s<64) (hu:u<18446744073709551616):u/2^s<18446744073709551616/\(0<s->u/2^s|||(u1*2^(64-s)%18446744073709551616)<18446744073709551616)/\
  (if 0<s then (u/2^s|||(u1*2^(64-s)%18446744073709551616)) else u/2^s)*2^s+u%2^s=u+18446744073709551616*(u1%2^s):=by
 have e:18446744073709551616=2^s*2^(64-s):=by rw [<-wL,show s+(64-s)=64 by omega]
 have h1:u1*2^(64-s)%18446744073709551616=(u1%2^s)*2^(64-s):=by rw [e,vM]
 have hp:=wC s;have h2:u/2^s<2^(64-s):=by
  refine (xV hp).2 ?_
  grind
 have h3:u/2^s|||(u1*2^(64-s)%18446744073709551616)=(u1%2^s)*2^(64-s)+u/2^s:=by rw [h1,ybN,Tq h2]
 have h4:(u1%2^s)*2^(64-s)+u/2^s<18446744073709551616:=by
  have:=yQ (2^(64-s)) (show u1%2^s+1<=2^s from xE _ hp)
  grind
 have h5:=tx u (2^s)
 grind
def ayK {us qs:List Nat} {n la m s:Nat} (hs:s<64) (lu:us.length=la) (gu:lo 18446744073709551616 us) (hn:n<la) (LI:la<=100000000000):
  ∀k st,(∃(i:Nat) (rs:List Nat),aJ [9,11,12,13,96,97] st=⟨[(9,ab s),(11,.aw 0 0 la),(12,ab n),(13,.aw 1 0 m),(96,ab n),(97,ab i)],H2 qs (rs++us.drop i),2,0⟩/\i+k=n/\rs.length=i/\lo 18446744073709551616 rs/\bv 18446744073709551616 rs*2^s+us.getD 0 0%2^s=bv 18446744073709551616 (us.take i)+18446744073709551616^i*(us.getD i 0%2^s))->
   ∃ex st',D P L (.loop [9,11,12,13,96,97] E5) st=some (ex,st')/\∃tm rs,st'=⟨tm,H2 qs (rs++us.drop n),2,0⟩/\ex= .exit 4/\af tm 11= .aw 0 0 la/\af tm 12=ab n/\af tm 13= .aw 1 0 m/\rs.length=n/\lo 18446744073709551616 rs/\bv 18446744073709551616 rs*2^s+us.getD 0 0%2^s=bv 18446744073709551616 (us.take n)+18446744073709551616^n*(us.getD n 0%2^s):=by
 intro dq sq;generalize a8:aJ [9,11,12,13,96,97] sq=s0;revert a8 s0 sq dq;apply cY;rintro k st ⟨i,rs,rfl,hk,lr,gr,aT⟩;by_cases hi:i<n
 ·left
  have dY:(0:Nat)<18446744073709551616:=by decide
  have g0:=ia dY gu i;have g1:=ia dY gu (i+1);have d0:us.drop i=us.getD i 0::us.getD (i+1) 0::us.drop (i+2):=by
   rw [yS (show i<us.length by omega),yS (show i+1<us.length by omega),gd,gd]
  have eU:=jt (b:=18446744073709551616) (l:=us) i;have lH:∀r,r<18446744073709551616->r*2^s+us.getD i 0%2^s=us.getD i 0+18446744073709551616*(us.getD (i+1) 0%2^s)->lo 18446744073709551616 (rs++[r])/\bv 18446744073709551616 (rs++[r])*2^s+us.getD 0 0%2^s=bv 18446744073709551616 (us.take (i+1))+18446744073709551616^(i+1)*(us.getD (i+1) 0%2^s):=fun r h1 h2=>by
   refine ⟨MJ.2 ⟨gr,Ft.2 h1⟩,?_⟩;rw [rS,Bg,lr,eU,wE,xd,xp,xp];have e2:=congrArg (fun t=>18446744073709551616^i*t) h2;simp only [xG] at e2;generalize 18446744073709551616^i*(r*2^s)=p1 at*
   generalize 18446744073709551616^i*(us.getD i 0%2^s)=p2 at*
   generalize 18446744073709551616^i*us.getD i 0=p3 at*
   generalize 18446744073709551616^i*(18446744073709551616*(us.getD (i+1) 0%2^s))=p4 at*
   omega
  have YY:us.drop (i+1)=us.getD (i+1) 0::us.drop (i+2):=by
   rw [yS (show i+1<us.length by omega),gd]
  generalize us.getD i 0=a at*
  obtain ⟨c,hc⟩:∃c,c=us.getD (i+1) 0:=⟨_,rfl⟩;rw [<-hc] at g1 d0 YY lH;generalize us.drop (i+2)=dr at*
  rw [d0];obtain ⟨n1,n2,n3⟩:=aq2 (u1:=c) hs g0;have o1:=KO .i64 a (s:=s) (by omega);have o2:=KN .i64 c (s:=64-s) (by omega);have o3:binOp .sub (.int .i64 64) (ab s)=some (ab (64-s:Nat)):=by
   rw [Nn,wrap64 (by omega) (by omega)];congr 2;omega
  have o4:=orU n1 (xE (c*2^(64-s)) dY);have sa:∀z y,(rs++z::y).set i a=rs++a::y:=fun z y=>by rw [yac _ _ (by omega),lr];simp
  have e0:∀z y,vT i ((rs++z::y).map uc)=uc z::y.map uc:=fun z y=>by
   rw [xg,uA (by simp [lr])];rfl
  have e1:∀z y u,vT (i+1) ((rs++z::y::u).map uc)=uc y::u.map uc:=fun z y u=>by
   rw [show rs++z::y::u=(rs++[z])++y::u by simp,xg,uA (by simp [lr])];rfl
  have fH:∀(hp:Hp) (ct x z:Nat) (y:List Nat),im hp ct 0 i 1 [.int .u64 (x:Int)] (some (.cells true true true 1 ((rs++z::y).map uc)))=some (.ae [],a6 hp 0 (.cells true true true 1 ((rs++x::y).map uc)),ct):=fun hp ct x z y=>by
   rw [kz (by simp;omega),yac _ _ (by omega),lr];simp
  by_cases h0:0<s
  ·rw [yT h0] at n3;obtain ⟨f1,f2⟩:=lH _ (n2 h0) n3;generalize a/2^s=a1 at*
   generalize a1|||(c*2^(64-s)%18446744073709551616)=r at*
   simp only [go_sem,ya,yf,E5,H2,show (i:Int)<(n:Int) by omega,bN 0 0 (show i<la by omega),ye,e0,o1,fH,show (0:Int)<(s:Int) by omega,show (i:Int)+1=((i+1:Nat):Int) from rfl,wrapN (n:=i+1) (by omega),show ((i+1:Nat):Int)<(la:Int) by omega,bN 0 0 (show i+1<la by omega),e1,o3,o2,o4];refine ⟨_,k-1,rfl,by omega,i+1,rs++[r],by simp only [go_sem,ya,yb,av];rw [YY];simp,by omega,by simp [lr],f1,by rw [<-hc];exact f2⟩
  ·rw [yD h0] at n3;obtain ⟨f1,f2⟩:=lH _ n1 n3;generalize a/2^s=a1 at*
   simp only [go_sem,ya,yf,E5,H2,show (i:Int)<(n:Int) by omega,bN 0 0 (show i<la by omega),ye,e0,o1,fH,show ¬(0:Int)<(s:Int) by omega,show (i:Int)+1=((i+1:Nat):Int) from rfl,wrapN (n:=i+1) (by omega)];refine ⟨_,k-1,rfl,by omega,i+1,rs++[a1],by simp only [go_sem,ya,yb,av];rw [YY];simp,by omega,by simp [lr],f1,by rw [<-hc];exact f2⟩
 ·right
  have:i=n:=by omega
  subst this;simp only [go_sem,ya,E5,H2,show ¬(i:Int)<(i:Int) by omega];exact ⟨_,_,rfl,by simp,_,rs,rfl,rfl,by simp only [go_sem,ya],by simp only [go_sem,ya],by simp only [go_sem,ya],lr,gr,aT⟩
end
end
section
open Go (IntKind)
def ac8 {b p A V bu bq0 U0 pre:Nat} (h1:bu=pre+p*A) (h2:bu+bq0*V=U0):(pre+p*(A%V))+(bq0+p*(A/V))*V=U0:=by
 have fW:=xR A V
 grind
def ajv (hp:Hp) (ct:Nat) (ex:Bool) (sz n:Nat) (cs:List AV):own hp ct (.bw ex sz n cs)=(.aw ct 0 n,(ct,.cells true true ex sz cs)::hp,ct+1):=rfl
section
variable {P:aM} {L:Lib}
def ayL (h:Wd P L) {w:AV} {vs:List Nat} (hw:bV w vs) (gv:lo 18446744073709551616 vs) {n la m:Nat} (lv:vs.length=n) (eB:2<=n) (Ld:n<=la) (LI:la<=99999999999) (hm:m=la-n+1) (fb:0<vs.getD (n-1) 0) {s U0:Nat}:
  ∀k st,(∃(j:Nat) (us qs:List Nat),aJ [9,10,11,12,13,14] st=⟨[(9,ab s),(10,w),(11,.aw 0 0 (la+1)),(12,ab n),(13,.aw 1 0 m),(14,ab ((j:Int)-1))],H2 qs us,2,0⟩/\j=k/\j<=m/\us.length=la+1/\qs.length=m/\lo 18446744073709551616 us/\lo 18446744073709551616 qs/\(∀i,i<j->qs.getD i 0=0)/\
    bv 18446744073709551616 us+bv 18446744073709551616 qs*bv 18446744073709551616 vs=U0/\bv 18446744073709551616 (us.drop j)<bv 18446744073709551616 vs)->
   ∃ex st',D P L (.loop [9,10,11,12,13,14] Ja) st=some (ex,st')/\∃tm us qs,st'=⟨tm,H2 qs us,2,0⟩/\ex= .exit 2/\af tm 9=ab s/\af tm 11= .aw 0 0 (la+1)/\af tm 12=ab n/\af tm 13= .aw 1 0 m/\us.length=la+1/\qs.length=m/\lo 18446744073709551616 us/\lo 18446744073709551616 qs/\
    bv 18446744073709551616 us+bv 18446744073709551616 qs*bv 18446744073709551616 vs=U0/\bv 18446744073709551616 us<bv 18446744073709551616 vs:=by
 intro dq sq;generalize a8:aJ [9,10,11,12,13,14] sq=s0;revert a8 s0 sq dq;apply cY;rintro k st ⟨j,us,qs,rfl,rfl,hj,lu,lq,gu,gq,hz,aT,oc⟩
 cases j with
 | zero=>
  right
  simp only [go_sem,ya,Ja,H2,show ¬(0:Int)<=((0:Nat):Int)-1 by omega];exact ⟨_,_,rfl,by simp,_,us,qs,rfl,rfl,by simp only [go_sem,ya],by simp only [go_sem,ya],by simp only [go_sem,ya],by simp only [go_sem,ya],lu,lq,gu,gq,aT,by simpa using oc⟩
 | succ j=>
  left
  have dY:(0:Nat)<18446744073709551616:=by decide
  obtain ⟨pre,fj⟩:∃p,p=us.take j:=⟨_,rfl⟩;obtain ⟨x,hx⟩:∃p,p=(us.drop j).take (n+1):=⟨_,rfl⟩;obtain ⟨post,gl⟩:∃p,p=us.drop (j+(n+1)):=⟨_,rfl⟩;have lp:pre.length=j:=by rw [fj,yy];omega
  have lx:x.length=n+1:=by rw [hx,yy,xN];omega
  have jZ:us=pre++x++post:=by
   rw [fj,hx,gl,<-vS,xA,xQ,xQ]
  have gx:lo 18446744073709551616 x:=by rw [hx];exact A6 (ahn gu _) _
  have YZ:lo 18446744073709551616 pre:=by rw [fj];exact A6 gu _
  have aAL:lo 18446744073709551616 post:=by rw [gl];exact ahn gu _
  have hA:bv 18446744073709551616 (us.drop j)=us.getD j 0+18446744073709551616*bv 18446744073709551616 (us.drop (j+1)):=Nr (by omega);have hgj:=ia dY gu j;have hdx:us.drop j=x++post:=by rw [gl,hx,<-vS,xQ]
  have AI:bv 18446744073709551616 (us.drop j)=bv 18446744073709551616 x+18446744073709551616^(n+1)*bv 18446744073709551616 post:=by rw [hdx,rS,lx]
  have LF:=mj gv;rw [lv] at LF;have aZ:bv 18446744073709551616 (us.drop j)<18446744073709551616*bv 18446744073709551616 vs:=by omega
  have hp0:bv 18446744073709551616 post=0:=by
   rcases xq (bv 18446744073709551616 post) with e | e
   ·exact e
   ·have h1:=yZ (18446744073709551616^(n+1)) e;rw [yf,xd] at h1;rw [xd] at AI;omega
  rw [hp0,xH,y5] at AI;have hl:ik x vs n (vs.getD (n-1) 0) (vs.getD (n-2) 0) (x.getD n 0) (x.getD (n-1) 0) (x.getD (n-2) 0):=
   ⟨eB,by omega,lx,lv,gx,gv,rfl,rfl,rfl,rfl,rfl,fb,by rw [<-AI];exact aZ⟩
  have PI:=hl.digit;obtain ⟨x',e1,lx',QF,LJ⟩:=aB8 h hw hl (pre:=pre) (post:=post) (qs:=qs);rw [lp,<-jZ] at e1;have hbu:bv 18446744073709551616 us=bv 18446744073709551616 pre+18446744073709551616^j*bv 18446744073709551616 x:=by
   have:=IE (b:=18446744073709551616) us j (by omega)
   rw [AI,<-fj] at this;exact this
  have Y0:bv 18446744073709551616 (pre++x'++post)=bv 18446744073709551616 pre+18446744073709551616^j*bv 18446744073709551616 x':=by
   rw [xA,rS,rS,hp0,xH,y5,lp]
  have a6:=nR (b:=18446744073709551616) (l:=qs) (i:=j) (x:=bv 18446744073709551616 x/bv 18446744073709551616 vs) (by omega);rw [hz j (by omega),xH,y5] at a6;have lH:=ac8 (b:=0) hbu aT;have aO:=fun (hp:Hp) (ct:Nat)=>kz (hp:=hp) (ct:=ct) (id:=1) (v:=bv 18446744073709551616 x/bv 18446744073709551616 vs) (ex:=true) (l:=qs) (o:=j) (by omega)
  have rF:0<bv 18446744073709551616 vs:=by omega
  have sM:=xE (bv 18446744073709551616 x) rF;have kj:∀tm (x y:X),df tm 0 (some x)=some j->df tm (la+1) (some y)=some (j+n+1)->fg (H2 qs us) (.sl 1) (.aw 0 0 (la+1)) tm (some x) (some y)=some (.aw 0 j (n+1)):=fun tm x y h1 h2=>by
   rw [avd (cs:=us.map uc) (pu:=true) (ex:=true) rfl h1 h2 (by omega) (by omega),show j+n+1-j=n+1 by omega]
  simp only [go_sem,ya,yf,Ja,H2,show ((j+1:Nat):Int)-1=(j:Int) by omega,show (0:Int)<=(j:Int) by omega,show (j:Int)+(n:Int)=((j+n:Nat):Int) from rfl,wrapN (n:=j+n) (by omega),show ((j+n:Nat):Int)+1=((j+n+1:Nat):Int) from rfl,wrapN (n:=j+n+1) (by omega),kj,dJ,aju,e1,bN 1 0 (show j<m by omega),ye,aO];refine ⟨_,j,rfl,by omega,j,pre++x'++post,qs.set j (bv 18446744073709551616 x/bv 18446744073709551616 vs),?_,rfl,by omega,by rw [ph,lp,lx',gl,xN];omega,by simp [lq],MJ.2 ⟨MJ.2 ⟨YZ,QF⟩,aAL⟩,mf gq PI,fun i hi=>by rw [pg (by omega)];exact hz i (by omega),?_,?_⟩
  ·rw [wrap64 (by omega) (by omega)];simp only [go_sem,ya,yb,av,aq hw.pu,au _ hw.pu]<;>rfl
  ·rw [Y0,LJ,a6];exact lH
  ·rw [xA,uA lp,rS,hp0,xH,y5,LJ];exact sM
def aAM {l:List Nat} {n:Nat} (h:l.length=n+1):18446744073709551616^n*l.getD n 0<=bv 18446744073709551616 l:=by
 have:=jt (b:=18446744073709551616) (l:=l) n
 grind
def od {m K:Nat} {l:List Nat} (hn:gW l) (hv:bv 18446744073709551616 l=m) (h:m<18446744073709551616^K):l.length<=K:=aqp (b:=18446744073709551616) (by decide) hn (by rw [hv];exact h)
def ayM (h:Wd P L) {v w:AV} {x:List Nat} {d:Nat} (hv:bV v x) (hw:bV w [d]) (gx:lo 18446744073709551616 x) (lx:x.length<=90000000000) (iG:0<d) (hdW:d<18446744073709551616) (ec:aj P L 158 [v,w] (ab (dV (bv 18446744073709551616 x) d))) (hc:d<=bv 18446744073709551616 x):
  ∃q r,aj P L 137 [v,w] (.ae [q,r])/\WN q (bv 18446744073709551616 x/d)/\WN r (bv 18446744073709551616 x%d):=by
 have eC:¬dV (bv 18446744073709551616 x) d<0:=by unfold dV;rw [yD (by omega)];split<;>decide
 obtain ⟨n,hn⟩:∃n,n=x.length:=⟨_,rfl⟩;have main:∃r l,(∀c:Nat->AV->AV->Option AV,True)/\r<d/\l.length=n/\lo 18446744073709551616 l/\bv 18446744073709551616 x=bv 18446744073709551616 l*d+r/\
   ∃q1 r1,bV q1 (ef l)/\bV r1 (ef [r])/\aj P L 137 [v,w] (.ae [q1,r1]):=by
  unfold aj;rw [aI h.YX]
  simp only [go_sem,ya,Ka,hv.len,hv.an,hw.len,hw.an,ec,eC,yI,yP,ye,show ((1:Nat):Int)=(1:Int) from rfl,<-hn,DI (n:=n) _ (by omega)];generalize hq:D P L (.loop [0,1,6,7,8] I9) _=q;obtain ⟨ex,s,rfl,tm,r,l,rfl,rfl,t6,t7,sY,bk,hr,aT⟩:=bq hq (ayJ (P:=P) (L:=L) h hv gx (by omega) hw iG hdW hn n) ⟨n,0,[],by
   rw [wrap64 (by omega) (by omega),wo]
   simp only [go_sem,ya,yb,av,aq hv.pu,au _ hv.pu,aq hw.pu,au _ hw.pu]<;>rfl,rfl,rfl,NH,iG,by rw [xh (by omega)];simp [bv]⟩
  have hf:=mR true l;rw [sY] at hf;obtain ⟨q1,e1,fy⟩:=BQ h.mv hf (by omega);obtain ⟨r1,e2,cM⟩:=BQ h.mv (mR true [r]) (by simp);simp only [yI,yP,ye,List.map_cons,List.map_nil] at e2;refine ⟨r,l,fun _=>trivial,hr,sY,bk,aT,q1,r1,fy,cM,?_⟩
  simp only [go_sem,ya,yb,yF,yp,yf,av,t6,t7,BP _ (n:=n) (l:=l) sY true,e1,fy.shut,e2,cM.shut];exact Tt fy cM _
 obtain ⟨r,l,_,hr,sY,bk,aT,q1,r1,fy,cM,e⟩:=main;have hq:bv 18446744073709551616 l=bv 18446744073709551616 x/d:=by
  rw [aT,xJ,tz iG,wM hr,y5]
 have hm:r=bv 18446744073709551616 x%d:=by
  rw [aT,xJ,tA,yX hr]
 exact ⟨q1,r1,e,⟨_,fy,A2 bk,A1 _,by rw [A0,hq]⟩,⟨_,cM,A2 (Ft.2 (by omega)),A1 _,by rw [A0,Bg,hm]⟩⟩
def ayN (h:Wd P L) {v w:AV} {x y:List Nat} (hv:bV v x) (hw:bV w y) (gx:lo 18446744073709551616 x) (gy:lo 18446744073709551616 y) (nx:gW x) (ny:gW y) (lx:x.length<=90000000000) (ly:2<=y.length) (ec:aj P L 158 [v,w] (ab (dV (bv 18446744073709551616 x) (bv 18446744073709551616 y)))) (hc:bv 18446744073709551616 y<=bv 18446744073709551616 x):
  ∃q r,aj P L 137 [v,w] (.ae [q,r])/\WN q (bv 18446744073709551616 x/bv 18446744073709551616 y)/\WN r (bv 18446744073709551616 x%bv 18446744073709551616 y):=by
 have dY:(0:Nat)<18446744073709551616:=by decide
 have eC:¬dV (bv 18446744073709551616 x) (bv 18446744073709551616 y)<0:=by unfold dV;rw [yD (by omega)];split<;>decide
 have hyx:y.length<=x.length:=by
  by_cases hh:x.length<y.length
  ·have:=Nl (b:=18446744073709551616) (by decide) gx ny hh;omega
  ·omega
 obtain ⟨n,hn⟩:∃n,n=y.length:=⟨_,rfl⟩;obtain ⟨la,LI⟩:∃la,la=x.length:=⟨_,rfl⟩;have Bt:=MY ny (fun e=>by subst e;simp at ly);have Ed:=ia dY gy (y.length-1);have eyl:=hw.aU (i:=y.length-1) (by omega);have lS:=aAM (l:=y) (n:=n-1) (by omega);rw [<-hn] at Bt Ed eyl;obtain ⟨top,oc⟩:∃top,y.getD (n-1) 0=top:=⟨_,rfl⟩;rw [oc] at Bt Ed eyl lS;have elz:=aiK (P:=P) (f:=D P L) h.KP Ed;obtain ⟨z1,z2,z3⟩:=Ss (yaC Bt) Ed;generalize 64-eM 64 top=s at*
 obtain ⟨ov,ev,lov,gov,vov⟩:=ak7 h.alc hw gy (by omega) z1;obtain ⟨ou,eu,lou,gou,vou⟩:=ak7 h.alc hv gx (by omega) z1;obtain ⟨v',evt,eI⟩:=BQ h.mv (mR true ov) (by omega);rw [lov,<-hn] at evt;rw [<-hn] at ev;rw [<-LI] at eu lou;have ji:=wC s;obtain ⟨vs,At⟩:∃vs,vs=ef ov:=⟨_,rfl⟩;rw [<-At] at eI;have Ee:lo 18446744073709551616 vs:=by rw [At];exact A2 gov
 have LK:gW vs:=by rw [At];exact A1 _
 have zh:bv 18446744073709551616 vs=bv 18446744073709551616 y*2^s:=by rw [At,A0,vov]
 have hyW:bv 18446744073709551616 y*2^s<18446744073709551616^n:=by
  have e:18446744073709551616=2^(64-s)*2^s:=by rw [<-wL,show 64-s+s=64 by omega]
  have e1:=jt (b:=18446744073709551616) (l:=y) (n-1);rw [show n-1+1=n by omega,yC (by omega),oc] at e1;have e2:=mj (A6 gy (n-1));rw [yy,xm (by omega)] at e2;have e3:top<2^(64-s):=Nat.lt_of_mul_lt_mul_right (a:=2^s) (Nat.lt_of_lt_of_eq z3 e);have e4:=yQ (2^s) (show top+1<=2^(64-s) from e3);rw [<-e] at e4;have e5:bv 18446744073709551616 y<18446744073709551616^(n-1)*(top+1):=by rw [xG,yf];omega
  have e6:=wz e5 ji;rw [xp] at e6;have e7:=yZ (18446744073709551616^(n-1)) e4;rw [<-xd,show (n-1).succ=n by omega] at e7;exact yU e6 e7
 have aB9:18446744073709551616^(n-1)*2^s<=bv 18446744073709551616 vs:=by
  rw [zh];refine yQ _ (xj ?_ lS)
  have:=yZ (18446744073709551616^(n-1)) (show 1<=top by omega)
  omega
 have AJ:vs.length=n:=by
  have h1:vs.length<=n:=by
   refine od LK zh ?_;exact hyW
  have h2:¬vs.length<n:=fun hh=>by
   have e1:=mj Ee;have e2:18446744073709551616^vs.length<=18446744073709551616^(n-1):=yY dY (by omega);have e3:=yQ (2^s) lS;rw [xp,<-zh] at e3;have e4:=yZ (18446744073709551616^(n-1)) (show 1<=top*2^s by omega);omega
  omega
 have fb:0<vs.getD (n-1) 0:=by
  have:=MY LK (fun e=>by rw [e] at AJ;simp at AJ;omega)
  rw [AJ] at this;exact yaC this
 obtain ⟨m,hm⟩:∃m,m=la-n+1:=⟨_,rfl⟩;have TX:bv 18446744073709551616 (ou.drop m)<bv 18446744073709551616 vs:=by
  have e1:=IE (b:=18446744073709551616) ou m (by omega);have e2:=mj gx;rw [<-LI] at e2;have e3:=wz e2 ji;rw [<-vou] at e3;have e4:18446744073709551616^la=18446744073709551616^m*18446744073709551616^(n-1):=by rw [<-wL];congr 1;omega
  rw [e4,xp] at e3;have e5:18446744073709551616^m*bv 18446744073709551616 (ou.drop m)<18446744073709551616^m*(18446744073709551616^(n-1)*2^s):=by omega
  exact yU (Nat.lt_of_mul_lt_mul_left e5) aB9
 have e1y:(y.length:Int)-1=((n-1:Nat):Int):=by omega
 have aCa:((la:Nat):Int)-(n:Int)=((m-1:Nat):Int):=by omega
 have jc:∃tm us qs rs,(us.length=la+1/\qs.length=m/\lo 18446744073709551616 us/\lo 18446744073709551616 qs/\bv 18446744073709551616 us+bv 18446744073709551616 qs*bv 18446744073709551616 vs=bv 18446744073709551616 x*2^s/\bv 18446744073709551616 us<bv 18446744073709551616 vs/\
   rs.length=n/\lo 18446744073709551616 rs/\bv 18446744073709551616 rs*2^s+us.getD 0 0%2^s=bv 18446744073709551616 (us.take n)+18446744073709551616^n*(us.getD n 0%2^s))/\af tm 0=v/\
   ∃q1 r1,bV q1 (ef qs)/\bV r1 (ef rs)/\aj P L 137 [v,w] (.ae [q1,r1]):=by
  unfold aj at ec ev eu evt;unfold aj;rw [aI h.YX];have hfo:=BP (n:=n+1) (l:=ov) (hp:=[]) (by omega) true
  simp only [go_sem,ya,yb,Ka,hv.len,hv.an,hw.len,hw.an,ec,eC,show ¬(y.length:Int)=1 by omega,e1y,wrapN (n:=n-1) (by omega),eyl,elz,ev,ajv,BP _ (n:=n+1) (l:=ov) (by omega) true,evt,eI.len,eI.shut,eu,AJ,<-LI,aCa,wrapN (n:=m-1) (by omega),show ((m-1:Nat):Int)+1=(m:Int) by omega,wrapN (n:=m) (by omega),DI (n:=m) _ (by omega)];generalize mG:D P L (.loop [9,10,11,12,13,14] Ja) _=qq;obtain ⟨ex,st,rfl,tm,us,qs,rfl,rfl,t9,t11,t12,t13,QG,QH,GY,gqs,aT,aZ⟩:=bq mG (ayL (P:=P) (L:=L) h eI Ee AJ (by omega) (by omega) (by omega) hm fb (s:=s) (U0:=bv 18446744073709551616 x*2^s) m) ⟨m,ou,yk m 0,by
   rw [show ((m-1:Nat):Int)=(m:Int)-1 by omega]
   simp only [go_sem,ya,yb,av,aq eI.pu,au _ eI.pu]<;>rfl,rfl,yv _,lou,by simp,gou,Fu dY m,fun i _=>CQ m i,by rw [Fv,tQ,y5,vou],TX⟩
  simp only [go_sem,ya,yb,av,t9,t11,t12,t13];generalize DK:D P L (.loop [9,11,12,13,96,97] E5) _=qq2;obtain ⟨ex,st,rfl,sR,rs,rfl,rfl,t11,t12,t13,lrs,grs,PJ⟩:=bq DK (ayK (P:=P) (L:=L) (qs:=qs) (m:=m) (la:=la+1) (n:=n) z1 QG GY (by omega) (by omega) n) ⟨0,[],by simp only [go_sem,ya,yb,av]<;>rfl,by omega,rfl,NH,by simp [bv]⟩
  have kj:∀(hp:Hp) tm (y:X),ay hp 0=some (.cells true true true 1 ((rs++us.drop n).map uc))->df tm (la+1) (some y)=some n->fg hp (.sl 1) (.aw 0 0 (la+1)) tm none (some y)=some (.aw 0 0 n):=fun hp tm y h1 h2=>ad9 h1 h2 (by omega) (by omega)
  have LL:=mR true qs;rw [QH] at LL;obtain ⟨q1,f1,fy⟩:=BQ h.mv LL (by omega);have eU:(rs++us.drop n).take n=rs:=by rw [List.take_append_of_le_length (by omega),yC (by omega)]
  have LM:∃e,∀hp:Hp,jO 0 n (some (true,1,(rs++us.drop n).map uc,hp))=some (.aB e n (rs.map uc),hp):=by
   refine ⟨true&&yR 0 1&&yx n ((rs++us.drop n).map uc).length,fun hp=>?_⟩;simp only [jO,ye,yf,slice,yK,<-tL,eU];rw [yu (by simp;omega)];rfl
  obtain ⟨e,LM⟩:=LM;have jl:=mR e rs;rw [lrs] at jl;obtain ⟨r1,f2,cM⟩:=BQ h.mv jl (by omega);unfold aj at f1 f2;refine ⟨[(0,v)],us,qs,rs,⟨QG,QH,GY,gqs,aT,aZ,lrs,grs,PJ⟩,rfl,q1,r1,fy,cM,?_⟩
  simp only [go_sem,ya,yb,av,t11,t12,t13,BP _ (n:=m) (l:=qs) QH true,f1,fy.shut,kj,dJ,LM,f2,cM.shut];exact Tt fy cM _
 obtain ⟨tm,us,qs,rs,⟨QG,QH,GY,gqs,aT,aZ,lrs,grs,PJ⟩,_,q1,r1,fy,cM,e⟩:=jc;have iS:0<bv 18446744073709551616 y:=by
  have:=yZ (18446744073709551616^(n-1)) (show 1<=top by omega)
  have:=Nat.pow_pos (n:=n-1) dY
  omega
 rw [zh] at aT aZ;have KQ:bv 18446744073709551616 qs=bv 18446744073709551616 x/bv 18446744073709551616 y:=by
  rw [<-uI _ _ ji,<-aT,yaQ,xJ,tz (Nat.mul_pos iS ji),wM aZ,y5]
 have QI:bv 18446744073709551616 us=(bv 18446744073709551616 x%bv 18446744073709551616 y)*2^s:=by
  rw [<-vM,<-aT,yaQ,xJ (bv _ qs),tA,yX aZ]
 have jZ:=IE (b:=18446744073709551616) us n (by omega);have iG:bv 18446744073709551616 (us.drop n)=0:=by
  rcases xq (bv 18446744073709551616 (us.drop n)) with h0 | h0
  ·exact h0
  ·have:=yZ (18446744073709551616^n) h0
   omega
 have hun:us.getD n 0=0:=by
  have:=Nr (b:=18446744073709551616) (l:=us) (i:=n) (by omega)
  omega
 rw [iG,xH,y5] at jZ;have Cf:us.getD 0 0%2^s=0:=by
  have e1:=Nr (b:=18446744073709551616) (l:=us) (i:=0) (by omega);rw [yK,QI] at e1;have e2:18446744073709551616=2^s*2^(64-s):=by rw [<-wL,show s+(64-s)=64 by omega]
  have e3:(us.getD 0 0+18446744073709551616*bv 18446744073709551616 (us.drop (0+1)))%2^s=us.getD 0 0%2^s:=by
   conv=>lhs;rw [e2,xp]
   exact Nat.add_mul_mod_self_left _ _ _
  rw [<-e3,<-e1,Nat.mul_mod_left]
 rw [hun,Cf,Nat.zero_mod,xH,y5,y5,<-jZ,QI] at PJ;have ajw:bv 18446744073709551616 rs=bv 18446744073709551616 x%bv 18446744073709551616 y:=Nat.eq_of_mul_eq_mul_right ji PJ;exact ⟨q1,r1,e,⟨_,fy,A2 gqs,A1 _,by rw [A0,KQ]⟩,⟨_,cM,A2 grs,A1 _,by rw [A0,ajw]⟩⟩
def alf (h:Wd P L) {v w:AV} {a b K:Nat} (hv:WN v a) (hw:WN w b) (hb:0<b) (ha:a<18446744073709551616^K) (hbK:b<18446744073709551616^K) (hK:K<=90000000000):
  ∃q r,aj P L 137 [v,w] (.ae [q,r])/\WN q (a/b)/\WN r (a%b):=by
 obtain ⟨x,GZ,gx,nx,vx⟩:=hv;obtain ⟨y,QJ,gy,ny,vy⟩:=hw;have lx:x.length<=90000000000:=xj (od nx vx ha) hK;have ly:y.length<=90000000000:=xj (od ny vy hbK) hK;have ec:=ak2 h.ald GZ QJ gx gy nx ny (by omega) (by omega);subst vx;subst vy;by_cases hc:bv 18446744073709551616 x<bv 18446744073709551616 y
 ·have eC:dV (bv 18446744073709551616 x) (bv 18446744073709551616 y)= -1:=by unfold dV;rw [yT hc]
  rw [eC] at ec;refine ⟨.aa,v,?_,⟨[],zy,NH,rfl,by rw [wM hc];rfl⟩,⟨x,GZ,gx,nx,by rw [yX hc]⟩⟩
  unfold aj;rw [aI h.YX];simp only [go_sem,ya,Ka,GZ.an,QJ.an,ec,show (-1:Int)<0 by decide];exact Tt zy GZ _
 ·rcases (show y.length=0\/y.length=1\/2<=y.length by omega) with h0 | h1 | h2
  ·rw [List.eq_nil_of_length_eq_zero h0] at hb;simp [bv] at hb
  ·obtain ⟨d,rfl⟩:∃d,y=[d]:=by
    cases y with
    | nil=>simp at h1
    | cons d r=>cases r with
     | nil=>exact ⟨d,rfl⟩
     | cons e r=>simp at h1
   exact ayM h GZ QJ gx lx hb (Ft.1 gy) ec (by omega)
  ·exact ayN h GZ QJ gx gy nx ny lx h2 ec (by omega)
end
end
section
open Go (IntKind)
def kC (v:AV) (n:Int):Prop:=∃w l,v= .agg [.bool (decide (n<0)),w]/\bC w l/\dg l/\nz l/\dv l=n.natAbs
def ju {l:List Int} {k:Nat} (hd:dg l) (hn:nz l) (h:dv l<1000000000^k):l.length<=k:=by
 by_cases h0:l=[]
 ·grind
 ·have h1:=N1 hn hd h0;have h2:1000000000^(l.length-1)<1000000000^k:=wJ h1 h;have h3:=(Nat.pow_lt_pow_iff_right (show 1<1000000000 by decide)).1 h2;omega
def gO {hp:Hp} {ct id:Nat} {a b x y:AV} (h1:dt a=true) (h2:dt b=true) (p1:a7 a=true) (p2:a7 b=true):
  im hp ct id 0 2 [a,b] (some (.cells true true true 2 [x,y]))=some (.ae [],a6 hp id (.cells true true true 2 [a,b]),ct):=by
 rw [qW (by rfl) (by simp) (by simp [cu,h1,h2])];simp [aK,p1,p2,over]
section
variable {P:aM} {L:Lib}
def cG (neg:Bool) (m:Nat):Int:=if neg=true then -(m:Int) else m
def Ah (h:Has P L 294 BC) (cZ:Has P L 300 lI) (neg:Bool) {v:AV} {l:List Int} (hv:bC v l) (hd:dg l) (hl:l.length<=20000000000):
  ∃r,aj P L 294 [.bool neg,v] r/\kC r (cG neg (dv l)):=by
 obtain ⟨w,e1,hw,jm⟩:=BO cZ hv hl;have qu:=zu l;have Cl:=ES l;have nE:=AZ hd;have hc:(neg&&decide ((0:Int)<((eb l).length:Nat)))=decide (cG neg (dv l)<0):=by
  unfold cG
  cases neg with
  | false=>simp
  | true=>
   simp only [Bool.true_and,xD];by_cases h0:eb l=[]
   ·rw [h0] at qu ⊢;simp only [dv] at qu;simp [<-qu]
   ·have h1:0<(eb l).length:=List.length_pos_iff.2 h0;have h2:0<dv l:=by
     rw [<-qu];rcases xq (dv (eb l)) with h | h
     ·exact absurd (ahl Cl nE h) h0
     ·exact h
    rw [xx (by omega),xx (by omega)]
 refine ⟨.agg [.bool (decide (cG neg (dv l)<0)),w],?_,w,eb l,rfl,hw,nE,Cl,?_⟩
 ·rw [<-hc];unfold aj at e1 ⊢;rw [aI h]
  cases neg with
  | false=>
   simp only [go_sem,ya,yb,yp,BC,bj,hv.an,e1,hw.pu,hw.shut,hw.one,hw.cells,gO];rcases hw with ⟨rfl,_⟩ | ⟨e,rfl⟩<;>rfl
  | true=>
   simp only [go_sem,ya,yb,yp,BC,bj,hv.an,e1,hw.len,hw.pu,hw.shut,hw.one,hw.cells,gO];rcases hw with ⟨rfl,_⟩ | ⟨e,rfl⟩<;>rfl
 ·rw [qu];unfold cG;split<;>omega
def alg (h:Has P L 298 OH) (jy:Has P L 294 BC) (cZ:Has P L 300 lI) {v:AV} {n:Int} {K:Nat} (hK:K<=20000000000) (hv:kC v n) (hn:n.natAbs<1000000000^K):∃r,aj P L 298 [v] r/\kC r (-n):=by
 obtain ⟨w,l,rfl,hw,hd,hz,qu⟩:=hv;obtain ⟨r,e1,hr⟩:=Ah jy cZ (!decide (n<0)) hw hd (xj (ju hd hz (by rw [qu];exact hn)) hK)
 have e:cG (!decide (n<0)) (dv l)= -n:=by
  rw [qu];unfold cG;by_cases h0:n<0
  ·simp [h0];omega
  ·simp [h0];omega
 rw [e] at hr;obtain ⟨w2,l2,rfl,iq,il,jS,Ai⟩:=hr;refine ⟨_,?_,w2,l2,rfl,iq,il,jS,Ai⟩;unfold aj at e1 ⊢;rw [aI h];simp only [go_sem,ya,yb,OH,bj,hw.pu,hw.an,hw.one,iq.pu,iq.one,cd,ye,dh,e1,gO,bX];rcases iq with ⟨rfl,_⟩ | ⟨e,rfl⟩<;>rfl
end
end
end VE
