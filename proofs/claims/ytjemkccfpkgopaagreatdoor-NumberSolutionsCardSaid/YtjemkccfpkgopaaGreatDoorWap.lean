import Derived.Test.YtjemkccfpkgopaaGreatDoorWao
import Derived.Test.YtjemkccfpkgopaaGreatDoorWag
set_option linter.all false
set_option maxRecDepth 100000
open BitVec renaming ofInt→xQ,ofInt_natCast→uI,ofNat→uH,toNat_ofNat→vJ
open Bool renaming and_eq_true→yg,and_self→wm,false_and→xN,false_eq_true→yI
open Go renaming IntKind→y7
open Int renaming natCast_mul→ve,toNat_natCast→xX
open List renaming append_assoc→xy,append_nil→xY,cons_append→xk,drop→vD,drop_drop→vX,drop_eq_getElem_cons→yP,drop_eq_nil_of_le→xf,drop_left'→uE,drop_zero→yL,filter_cons→yaR,filter_eq_nil_iff→tW,getD_eq_getElem?_getD→y9,length_cons→yz,length_drop→xT,length_nil→yK,length_reverse→yas,length_take→yE,map_append→xi,map_take→tN,mem_append→xZ,mem_singleton→xC,nil_append→xB,range'→xW,range'_succ→vN,replicate→yj,replicate_succ→wo,reverse_cons→yaH,set_append_right→yaf,take_append_drop→xS,take_length→xD,take_of_length_le→yN,take_succ_eq_append_getElem→xb
open Nat renaming add_comm→yaD,add_mul→wJ,add_sub_cancel→tH,add_zero→yY,beq→yv,beq_refl→wW,ble→yF,ble_eq_true_of_le→ym,blt→yQ,div_add_mod→xU,div_eq_of_lt→wT,div_le_self→vH,div_lt_iff_lt_mul→wg,eq_zero_or_pos→xp,le_of_ble_eq_true→yy,le_of_lt→uX,le_refl→yu,le_trans→xm,lt_of_le_of_lt→wR,lt_of_lt_of_le→yU,min_eq_left→xA,mod_add_div→tA,mod_eq_of_lt→yW,mod_lt→xF,mul_add→xI,mul_add_div→tB,mul_add_mod→tC,mul_assoc→xo,mul_comm→xL,mul_div_mul_right→uL,mul_le_mul→vj,mul_le_mul_left→yZ,mul_le_mul_right→yV,mul_lt_mul_of_pos_right→wK,mul_mod_mul_right→vS,mul_one→yf,mul_zero→xJ,or_comm→ybP,pos_of_ne_zero→yaI,pow_add→wS,pow_le_pow_right→xh,pow_succ→xd,pow_zero→ybF,reduceAdd→yb,reduceEqDiff→ya,reduceLT→yD,reduceLeDiff→yk,reduceMul→xt,two_pow_pos→wL,zero_add→ye,zero_le→uf,zero_mul→tS
namespace VE
section
open Go (IntKind)
section
variable {P:aK} {L:Lib}
def YF (h:Has P L 302 sj) {v:AV} {l:List Int} (hv:bt v l) (i:Nat):ak P L 302 [v,ab i] (ab (l.getD i 0)):=by
 unfold ak;rw [aH h];by_cases hi:i<l.length
 ·simp only [go_sem,ya,sj,hv.len,show (i:Int)<l.length by omega,hv.aY hi];simp [y9,List.getElem?_eq_getElem hi]
 ·simp only [go_sem,ya,sj,hv.len,show ¬(i:Int)<l.length by omega];simp [y9,List.getElem?_eq_none (Nat.le_of_not_lt hi)]
def ahq {hp:Hp} {e:Bool} {n:Nat} {cs:List AV} {tm:Env} {h:Nat} {x:X} (hx:dc tm n (some x)=some h) (hh:h<=n):
  ff hp (.sl 1) (.aw e n cs) tm none (some x)=some (.aw (e&&yv h n) h (cs.take h)):=by
 simp only [ff,hx,fb];simp [ym hh,slice];rw [show yF 0 h=true from ym (uf _)];rfl
def BB (h:Has P L 300 lL) {v:AV} {l:List Int} (hv:bt v l) (hl:l.length<=20000000000):∃r,ak P L 300 [v] r/\bt r (dY l)/\shut r=r:=by
 rcases hv with ⟨rfl,h0⟩ | ⟨e,rfl⟩
 ·have:l=[]:=by simpa using h0
  subst this;refine ⟨.aa,?_,qF,rfl⟩;unfold ak;rw [aH h];simp only [go_sem,ya,lL,No,CU,ax,show ¬(0:Int)<0 by decide]
 ·have key:=gh (P:=P) (L:=L) (live:=[0]) (a:=CU)
   (I:=fun k st=>∃(i:Nat) (e:Bool),st=⟨[(0,.aw e i ((l.take i).map ab))],[],0,0⟩/\i<=l.length/\i=k/\dY (l.take i)=dY l)
   (Q:=fun ex st=>∃tm ct,st=⟨tm,[],ct,0⟩/\ex= .exit 0/\∃i e,ai tm 0= .aw e i ((l.take i).map ab)/\i<=l.length/\l.take i=dY l) ?_
  ·have hlen:(l.map ab).length=l.length:=by simp
   rw [hlen];have je:∃i e',ak P L 300 [.aw e l.length (l.map ab)] (.aw e' i ((l.take i).map ab))/\i<=l.length/\l.take i=dY l:=by
    unfold ak;rw [aH h];simp only [go_sem,lL];generalize hq:D P L (.loop [0] CU) _=q;obtain ⟨ex,st,rfl,tm,ct,rfl,rfl,i,e',h2,h3,h4⟩:=bJ hq (key l.length) ⟨l.length,e,by simp only [go_sem,ya,ax,xD],yu _,rfl,by rw [xD]⟩;simp only [go_sem,ax,h2];exact ⟨i,e',rfl,h3,h4⟩
   obtain ⟨i,e',g1,g2,g3⟩:=je;refine ⟨_,g1,?_,rfl⟩;rw [<-g3]
   have:=lB e' (l.take i)
   rwa [yE,xA g2] at this
  ·rintro k st ⟨i,e,rfl,hi,rfl,ht⟩
   cases i with
   | zero=>
    right
    simp only [go_sem,ya,CU,show ¬(0:Int)<((0:Nat):Int) by omega];exact ⟨_,_,rfl,by simp,_,_,rfl,rfl,0,e,by simp only [go_sem,ya],uf _,by simpa [dY] using ht⟩
   | succ i=>
    have La:i<l.length:=by omega
    have eS:l.take (i+1)=l.take i++[l[i]]:=xb La;have jl:vD i ((l.take (i+1)).map ab)=[AV.int .i64 l[i]]:=by
     rw [eS,xi,uE (by simp;omega)];rfl
    have oL:jG 1 i (.aw e (i+1) ((l.take (i+1)).map ab))=some (.b6 [AV.int .i64 l[i]]):=by
     rw [So e _ (by omega),yf,jl]
    by_cases h0:l[i]=0
    ·left
     have jO:∀tm x,dc tm (i+1) (some x)=some i->ff [] (.sl 1) (.aw e (i+1) ((l.take (i+1)).map ab)) tm none (some x)=some (.aw (e&&yv i (i+1)) i ((l.take i).map ab)):=fun tm x hx=>by
      rw [ahq hx (by omega),<-tN,List.take_take,xA (by omega)]
     simp only [go_sem,ya,CU,show (0:Int)<((i+1:Nat):Int) by omega,show ((i+1:Nat):Int)-1=(i:Int) by omega,wrapN (n:=i) (by omega),oL,h0,jO,dM];refine ⟨_,i,rfl,by omega,i,_,by simp only [go_sem,ax]<;>rfl,by omega,rfl,?_⟩
     rw [<-ht,eS,h0,HU]
    ·right
     simp only [go_sem,ya,CU,show (0:Int)<((i+1:Nat):Int) by omega,show ((i+1:Nat):Int)-1=(i:Int) by omega,wrapN (n:=i) (by omega),oL,h0];refine ⟨_,_,rfl,by simp,_,_,rfl,rfl,i+1,e,by simp only [go_sem,ya],by omega,?_⟩;rw [<-ht,eS,L4 h0]
end
end
section
open Go (IntKind)
abbrev uc (n:Nat):AV:= .int .u64 (n:Int)
def bV (v:AV) (l:List Nat):Prop:=cQ v (l.map uc)
section
variable {v:AV} {l:List Nat}
def bV.len (h:bV v l) {hp:Hp}:gI hp 1 v=some (.int .i64 (l.length:Nat)):=by
 have:=cQ.len (hp:=hp) h
 grind
def bV.pu (h:bV v l):bg v=true:=cQ.pu h
def bV.ap (h:bV v l) (n:Nat) {hp:Hp}:freeze (n+1) hp v=some (v,hp):=cQ.ap h n
def bV.shut (h:bV v l):VE.shut v=v:=cQ.shut h
def bV.bK (h:bV v l):VE.bK v=v:=cQ.bK h
def bV.fO (h:bV v l) {hp:Hp}:result hp v=some v:=cQ.fO h
def bV.one (h:bV v l):dt v=true:=cQ.one h
def bV.aY (h:bV v l) {i:Nat} (hi:i<l.length):jG 1 i v=some (.b6 (uc (l.getD i 0)::(l.map uc).drop (i+1))):=by
 have:=cQ.aY h (i:=i) (by simpa using hi)
 grind
def mQ (e:Bool) (l:List Nat):bV (.aw e l.length (l.map uc)) l:=by
 have:=EA e (l.map uc)
 rwa [List.length_map] at this
def zi:bV .aa []:=qF
end
def kG {hp:Hp} {ct id o:Nat} {v:Nat} {ex:Bool} {l:List Nat} (h:o<l.length):iR hp ct id o 1 [.int .u64 (v:Int)] (some (.cells true true ex 1 (l.map uc)))=some (.ae [],a7 hp id (.cells true true ex 1 ((l.set o v).map uc)),ct):=by
 rw [zJ (by rfl) (by simp;omega) (by rfl)]
 have:over o [uc v] (l.map uc)=(l.set o v).map uc:=by
  simp only [over,yz,yK,ye];rw [List.map_set,List.set_eq_take_append_cons_drop,yM (by simpa using h)]
  simp
 rw [this];rfl
def zL {l:List Nat} {o:Nat} (h:o<l.length):vD o (l.map uc)=uc (l.getD o 0)::vD (o+1) (l.map uc):=by
 rw [yP (by simpa using h)]
 grind
def au3 (n:Nat):(yj n [AV.int .u64 0]).flatten=(yj n 0).map uc:=by simp_all
def Dw (ct:Nat) {n:Nat} (h:n<=100000000000):qU ct 1 8 [.int .u64 0] (some n) (some n)=some (.ao ct 0 n,.cells true true true 1 ((yj n 0).map uc)):=by
 rw [C2 (sz:=1) (by omega) (by omega) (by rfl) (by rfl),au3];rfl
def BC (hp:Hp) {n:Nat} {l:List Nat} (h:l.length=n) (ex:Bool):jN 0 n (some (ex,1,l.map uc,hp))=some (.aw ex n (l.map uc),hp):=nP ex (by simp [h]) (by decide)
def ajm {n:Nat} (h:n<18446744073709551616):IntKind.wrap .u64 (n:Int)=n:=aAH (by omega) (by omega)
section
variable {P:aK} {L:Lib} {f:cA}
def kO {a b:Nat} (h:a<b):yQ a b=true:=by simp_all
def C3 (h:L.pure 171=some nV) {x y c:Nat} (hx:x<18446744073709551616) (hy:y<18446744073709551616) (hc:c<=1):
  bL P L f 171 [uc x,uc y,uc c]=some (.ae [uc ((x+y+c)%18446744073709551616),uc ((x+y+c)/18446744073709551616)]):=by
 rw [jr h];show (bif yF c 1&&(yQ x 18446744073709551616&&yQ y 18446744073709551616) then _ else none)=_
 rw [ym hc,kO hx,kO hy];rfl
def S6 (h:L.pure 173=some A3) {x y c:Nat} (hx:x<18446744073709551616) (hy:y<18446744073709551616) (hc:c<=1):
  bL P L f 173 [uc x,uc y,uc c]=some (.ae [uc ((x+18446744073709551616*2-y-c)%18446744073709551616),uc (if y+c<=x then 0 else 1)]):=by
 rw [jr h];show (bif yF c 1&&(yQ x 18446744073709551616&&yQ y 18446744073709551616) then _ else none)=_
 rw [ym hc,kO hx,kO hy];by_cases hh:y+c<=x
 ·rw [ym hh,yM hh];rfl
 ·have:yF (y+c) x=false:=by
   cases hq:yF (y+c) x with
   | false=>rfl
   | true=>exact absurd (yy hq) hh
  grind
def Ns (h:L.pure 143=some rT) {x y:Nat} (hx:x<18446744073709551616) (hy:y<18446744073709551616):
  bL P L f 143 [uc x,uc y]=some (.ae [uc (x*y/18446744073709551616),uc (x*y%18446744073709551616)]):=by
 rw [jr h];show (bif yQ x 18446744073709551616&&yQ y 18446744073709551616 then _ else none)=_
 rw [kO hx,kO hy];rfl
def asT {hp:Hp} {tm:Env} {x:X} (hx:dc tm 0 (some x)=some 0):ff hp (.sl 1) .aa tm none (some x)=some .aa:=by
 simp only [ff,hx,fb]
def BD (h:Has P L 166 Bq) {v:AV} {l:List Nat} (hv:bV v l) (hl:l.length<=100000000000):∃r,ak P L 166 [v] r/\bV r (dZ l):=by
 rcases hv with ⟨rfl,h0⟩ | ⟨e,rfl⟩
 ·have:l=[]:=by simpa using h0
  subst this;refine ⟨.aa,?_,qF⟩;unfold ak;rw [aH h];simp only [go_sem,ya,Bq,No,CN,ax,show ¬(0:Int)<0 by decide,asT,dM]
 ·have key:=gh (P:=P) (L:=L) (live:=[0,3]) (a:=CN)
   (I:=fun k st=>∃(i:Nat),st=⟨[(0,.aw e l.length (l.map uc)),(3,ab i)],[],0,0⟩/\i<=l.length/\i=k/\dZ (l.take i)=dZ l)
   (Q:=fun ex st=>∃tm ct,st=⟨tm,[],ct,0⟩/\ex= .exit 0/\∃i:Nat,ai tm 0= .aw e l.length (l.map uc)/\ai tm 3=ab i/\i<=l.length/\l.take i=dZ l) ?_
  ·have hlen:(l.map uc).length=l.length:=by simp
   rw [hlen];have je:∃i e',ak P L 166 [.aw e l.length (l.map uc)] (.aw e' i ((l.take i).map uc))/\i<=l.length/\l.take i=dZ l:=by
    unfold ak;rw [aH h];simp only [go_sem,ya,Bq];generalize hq:D P L (.loop [0,3] CN) _=q;obtain ⟨ex,st,rfl,tm,ct,rfl,rfl,i,h2,h3,h4,h5⟩:=bJ hq (key l.length) ⟨l.length,by simp only [go_sem,ya,ax],yu _,rfl,by rw [xD]⟩;have jO:∀tm x,dc tm l.length (some x)=some i->ff [] (.sl 1) (.aw e l.length (l.map uc)) tm none (some x)=some (.aw (e&&yv i l.length) i ((l.map uc).take i)):=fun tm x hx=>ahq hx h4
    simp only [go_sem,ya,ax,h2,h3,jO,dM];exact ⟨i,_,by rw [tN],h4,h5⟩
   obtain ⟨i,e',g1,g2,g3⟩:=je;refine ⟨_,g1,?_⟩;rw [<-g3]
   have:=mQ e' (l.take i)
   rwa [yE,xA g2] at this
  ·rintro k st ⟨i,rfl,hi,rfl,ht⟩
   cases i with
   | zero=>
    right
    simp only [go_sem,ya,CN,show ¬(0:Int)<((0:Nat):Int) by omega];exact ⟨_,_,rfl,by simp,_,_,rfl,rfl,0,by simp only [go_sem,ya],by simp only [go_sem,ya],uf _,by simpa [dZ] using ht⟩
   | succ i=>
    have La:i<l.length:=by omega
    have eS:l.take (i+1)=l.take i++[l[i]]:=xb La;have oL:=(mQ e l).aY La;rw [<-gd La] at oL;by_cases h0:l[i]=0
    ·left
     simp only [go_sem,ya,CN,show (0:Int)<((i+1:Nat):Int) by omega,show ((i+1:Nat):Int)-1=(i:Int) by omega,wrapN (n:=i) (by omega),oL,show ((l[i]:Nat):Int)=0 by omega];refine ⟨_,i,rfl,by omega,i,by simp only [go_sem,ya,ax],by omega,rfl,?_⟩;rw [<-ht,eS,h0,L5]
    ·right
     simp only [go_sem,ya,CN,show (0:Int)<((i+1:Nat):Int) by omega,show ((i+1:Nat):Int)-1=(i:Int) by omega,wrapN (n:=i) (by omega),oL,show ¬((l[i]:Nat):Int)=0 by omega];refine ⟨_,_,rfl,by simp,_,_,rfl,rfl,i+1,by simp only [go_sem,ya],by simp only [go_sem,ya],by omega,?_⟩;rw [<-ht,eS,Em h0]
end
end
section
open Go (IntKind)
def L7 (p b s:Nat):p*(s%b)+p*b*(s/b)=p*s:=by
 rw [xo,<-xI,tA]
def aqN {b:Nat} {x y out:List Nat} {i c:Nat} (hi:i<out.length) (hz:out.getD i 0=0) (hv:bv b out+b^i*c=bv b (x.take i)+bv b (y.take i)):
  bv b (out.set i ((x.getD i 0+y.getD i 0+c)%b))+b^(i+1)*((x.getD i 0+y.getD i 0+c)/b)=bv b (x.take (i+1))+bv b (y.take (i+1)):=by
 have h1:=nX (b:=b) (x:=(x.getD i 0+y.getD i 0+c)%b) hi;have h2:=L7 (b^i) b (x.getD i 0+y.getD i 0+c);rw [hz,xJ,yY] at h1;rw [ju,ju,xd,h1]
 grind
def aqO {b:Nat} {x y out:List Nat} {i c z c':Nat} (hi:i<out.length) (hz:out.getD i 0=0) (hs:z+y.getD i 0+c=x.getD i 0+b*c') (hv:bv b out+bv b (y.take i)=bv b (x.take i)+b^i*c):
  bv b (out.set i z)+bv b (y.take (i+1))=bv b (x.take (i+1))+b^(i+1)*c':=by
 have h1:=nX (b:=b) (x:=z) hi;rw [hz,xJ,yY] at h1;rw [ju,ju,xd,h1]
 grind
section
variable {P:aK} {L:Lib}
def akX (h:Has P L 158 Fu) {v w:AV} {x y:List Nat} (hv:bV v x) (hw:bV w y) (hx:lo 18446744073709551616 x) (hy:lo 18446744073709551616 y) (nx:gQ x) (ny:gQ y) (lx:x.length<=100000000000) (ly:y.length<=100000000000):
  ak P L 158 [v,w] (ab (dU (bv 18446744073709551616 x) (bv 18446744073709551616 y))):=by
 unfold ak;rw [aH h];by_cases hlen:x.length=y.length
 ·have key:=gh (P:=P) (L:=L) (live:=[0,1,5]) (a:=CM)
   (I:=fun k st=>∃j:Nat,st=⟨[(0,v),(1,w),(5,ab ((j:Int)-1))],[],0,0⟩/\j<=x.length/\j=k/\x.drop j=y.drop j)
   (Q:=fun ex st=>∃tm ct,st=⟨tm,[],ct,0⟩/\((ex= .ret/\ai tm 4=ab (dU (bv 18446744073709551616 x) (bv 18446744073709551616 y)))\/(ex= .exit 0/\x=y))) ?_
  ·simp only [go_sem,ya,Fu,hv.len,hw.len,show (x.length:Int)=y.length by omega];generalize hq:D P L (.loop [0,1,5] CM) _=q;obtain ⟨ex,st,rfl,tm,ct,rfl,h2⟩:=bJ hq (key x.length) ⟨x.length,by
    rw [wrap64 (by omega) (by omega),hlen]
    simp only [go_sem,ya,ax,aD hv.pu,aE _ hv.pu,aD hw.pu,aE _ hw.pu]<;>rfl,yu _,rfl,by rw [xf (yu _),xf (by omega)]⟩
   rcases h2 with ⟨rfl,h2⟩ | ⟨rfl,h2⟩
   ·simp only [go_sem,h2]
   ·simp only [go_sem,ax];subst h2;simp [dU]
  ·rintro k st ⟨j,rfl,hj,rfl,he⟩
   cases j with
   | zero=>
    right
    simp only [go_sem,ya,CM,show ¬(0:Int)<=((0:Nat):Int)-1 by omega];exact ⟨_,_,rfl,by simp,_,_,rfl,.inr ⟨rfl,by simpa using he⟩⟩
   | succ i=>
    have h1:i<x.length:=by omega
    have h2:i<y.length:=by omega
    have Gp:=ahh hx h1 h2 he;have aW:=ahh hy h2 h1 he.symm;by_cases c0:x.getD i 0=y.getD i 0
    ·left
     simp only [go_sem,ya,CM,show ((i+1:Nat):Int)-1=(i:Int) by omega,show (0:Int)<=(i:Int) by omega,hv.aY h1,hw.aY h2,c0];refine ⟨_,i,rfl,by omega,i,?_,by omega,rfl,?_⟩
     ·rw [wrap64 (by omega) (by omega)];simp only [go_sem,ya,ax,aD hv.pu,aE _ hv.pu,aD hw.pu,aE _ hw.pu]<;>rfl
     ·rw [yP h1,yP h2,he,gd h1,gd h2,c0]
    ·by_cases c1:x.getD i 0<y.getD i 0
     ·right
      simp only [go_sem,ya,CM,show ((i+1:Nat):Int)-1=(i:Int) by omega,show (0:Int)<=(i:Int) by omega,hv.aY h1,hw.aY h2,show ¬((x.getD i 0:Nat):Int)=(y.getD i 0:Nat) by omega,show ((x.getD i 0:Nat):Int)<(y.getD i 0:Nat) by omega];refine ⟨_,_,rfl,by simp,_,_,rfl,.inl ⟨rfl,?_⟩⟩;simp only [go_sem];unfold dU;rw [yM (Gp c1)]
     ·right
      simp only [go_sem,ya,CM,show ((i+1:Nat):Int)-1=(i:Int) by omega,show (0:Int)<=(i:Int) by omega,hv.aY h1,hw.aY h2,show ¬((x.getD i 0:Nat):Int)=(y.getD i 0:Nat) by omega,show ¬((x.getD i 0:Nat):Int)<(y.getD i 0:Nat) by omega];refine ⟨_,_,rfl,by simp,_,_,rfl,.inl ⟨rfl,?_⟩⟩;simp only [go_sem];unfold dU;rw [yx (by omega),yM (by omega)]
 ·by_cases c1:x.length<y.length
  ·have:=MV (b:=18446744073709551616) (by decide) hx ny c1
   simp only [go_sem,ya,Fu,hv.len,hw.len,show ¬(x.length:Int)=y.length by omega,show (x.length:Int)<y.length by omega];unfold dU;rw [yM this]
  ·have:=MV (b:=18446744073709551616) (by decide) hy nx (show y.length<x.length by omega)
   simp only [go_sem,ya,Fu,hv.len,hw.len,show ¬(x.length:Int)=y.length by omega,show ¬(x.length:Int)<y.length by omega];unfold dU;rw [yx (by omega),yM this]
def aiE (gN:L.pure 171=some nV) {v w:AV} {x y:List Nat} (hv:bV v x) (hw:bV w y) (hx:lo 18446744073709551616 x) (hy:lo 18446744073709551616 y) (lx:x.length<=99999999999) (ly:y.length<=x.length) {n:Nat} (hn:n=x.length+1):
  ∀k s,(∃(i c:Nat) (out:List Nat),aI [0,1,5,6,21,22] s=⟨[(0,v),(1,w),(5,.ao 0 0 n),(6,uc c),(21,ab x.length),(22,ab i)],[(0,.cells true true true 1 (out.map uc))],1,0⟩/\i+k=x.length/\out.length=n/\c<=1/\lo 18446744073709551616 out/\
    bv 18446744073709551616 out+18446744073709551616^i*c=bv 18446744073709551616 (x.take i)+bv 18446744073709551616 (y.take i)/\(∀m,i<=m->out.getD m 0=0))->
   ∃ex s',D P L (.loop [0,1,5,6,21,22] CL) s=some (ex,s')/\∃tm c out,s'=⟨tm,[(0,.cells true true true 1 (out.map uc))],1,0⟩/\ex= .exit 0/\ai tm 0=v/\ai tm 5= .ao 0 0 n/\ai tm 6=uc c/\out.length=n/\c<=1/\lo 18446744073709551616 out/\
    bv 18446744073709551616 out+18446744073709551616^x.length*c=bv 18446744073709551616 x+bv 18446744073709551616 y/\out.getD x.length 0=0:=by
 intro dq sq;generalize bk:aI [0,1,5,6,21,22] sq=s0;revert bk s0 sq dq;apply du;rintro k s ⟨i,c,out,rfl,hk,hlen,hc,bh,aS,gE⟩;by_cases hi:i<x.length
 ·left
  have hz:=gE i (yu _);have kP:=aqN (x:=x) (y:=y) (show i<out.length by omega) hz aS;have gx:=gV (show 0<18446744073709551616 by decide) hx i;have gy:=gV (show 0<18446744073709551616 by decide) hy i;have e1:=C3 (P:=P) (f:=D P L) gN gx gy hc;have ex:=hv.aY hi;generalize x.getD i 0=p at*
  by_cases hj:i<y.length
  ·have ey:=hw.aY hj;generalize y.getD i 0=q at*
   simp only [go_sem,ya,yf,CL,hw.len,show (i:Int)<x.length by omega,show (i:Int)<y.length by omega,ex,ey,e1,bN 0 0 (show i<n by omega),ye,kG (l:=out) (o:=i) (by omega)]
   refine ⟨_,k-1,rfl,by omega,i+1,(p+q+c)/18446744073709551616,_,?_,by omega,by simp [hlen],by omega,ml bh (x:=(p+q+c)%18446744073709551616) (i:=i) (by omega),kP,fun m hm=>?_⟩
   ·rw [wrap64 (by omega) (by omega)];simp only [go_sem,ya,yb,ax,aD hv.pu,aE _ hv.pu,aD hw.pu,aE _ hw.pu]<;>rfl
   ·rw [pn (by omega)];exact gE m (by omega)
  ·have jW:y.getD i 0=0:=SV (by omega);rw [jW] at kP e1;rw [show (uc 0)=AV.int .u64 0 from rfl] at e1
   simp only [go_sem,ya,yf,CL,hw.len,show (i:Int)<x.length by omega,show ¬(i:Int)<y.length by omega,ex,e1,bN 0 0 (show i<n by omega),ye,kG (l:=out) (o:=i) (by omega)]
   refine ⟨_,k-1,rfl,by omega,i+1,(p+0+c)/18446744073709551616,_,?_,by omega,by simp [hlen],by omega,ml bh (x:=(p+0+c)%18446744073709551616) (i:=i) (by omega),kP,fun m hm=>?_⟩
   ·rw [wrap64 (by omega) (by omega)];simp only [go_sem,ya,yb,ax,aD hv.pu,aE _ hv.pu,aD hw.pu,aE _ hw.pu]<;>rfl
   ·rw [pn (by omega)];exact gE m (by omega)
 ·right
  have:i=x.length:=by omega
  subst this;rw [xD,yN ly] at aS;simp only [go_sem,ya,CL,show ¬(x.length:Int)<x.length by omega];exact ⟨_,_,rfl,by simp,_,c,out,rfl,rfl,by simp only [go_sem,ya],by simp only [go_sem,ya],by simp only [go_sem,ya],hlen,hc,bh,aS,gE _ (yu _)⟩
def aBV (h:Has P L 157 JE) (mz:Has P L 166 Bq) (gN:L.pure 171=some nV) {v w:AV} {x y:List Nat} (hv:bV v x) (hw:bV w y) (hx:lo 18446744073709551616 x) (hy:lo 18446744073709551616 y) (lx:x.length<=99999999999) (ly:y.length<=99999999999):
  ∃r out,ak P L 157 [v,w] r/\bV r out/\lo 18446744073709551616 out/\gQ out/\bv 18446744073709551616 out=bv 18446744073709551616 x+bv 18446744073709551616 y:=by
 have fin:∀{x y o:List Nat} {n c:Nat},n=x.length+1->x.length<=99999999999->o.length=n->c<=1->lo 18446744073709551616 o->bv 18446744073709551616 o+18446744073709551616^x.length*c=bv 18446744073709551616 x+bv 18446744073709551616 y->o.getD x.length 0=0->
   ∃r,bL P L (D P L) 166 [.aw true n ((o.set x.length c).map uc)]=some r/\bV r (dZ (o.set x.length c))/\lo 18446744073709551616 (dZ (o.set x.length c))/\gQ (dZ (o.set x.length c))/\bv 18446744073709551616 (dZ (o.set x.length c))=bv 18446744073709551616 x+bv 18446744073709551616 y:=by
  intro x y o n c hn lx hlen hc bh aS hz;have a7:=nX (b:=18446744073709551616) (l:=o) (i:=x.length) (x:=c) (by omega);rw [hz,xJ,yY,aS] at a7;have aBW:lo 18446744073709551616 (o.set x.length c):=ml bh (by omega);have hf:=mQ true (o.set x.length c);rw [List.length_set,hlen] at hf;obtain ⟨r,e1,hr⟩:=BD mz hf (by simp;omega);exact ⟨r,e1,hr,AX aBW,AW _,by rw [AU];exact a7⟩
 by_cases hl:x.length<y.length
 ·obtain ⟨n,hn⟩:∃n,n=y.length+1:=⟨_,rfl⟩;unfold ak;rw [aH h]
  simp only [go_sem,ya,yb,JE,hv.len,hw.len,show (x.length:Int)<y.length by omega,wrapN (n:=n) (by omega),show (y.length:Int)+1=((y.length+1:Nat):Int) from rfl,<-hn,Dw (n:=n) _ (by omega)];generalize hq:D P L (.loop [0,1,5,6,21,22] CL) _=q;obtain ⟨ex,s,rfl,tm,c,o,rfl,rfl,t0,t5,t6,hlen,hc,bh,aS,hz⟩:=bJ hq (aiE (P:=P) (L:=L) gN hw hv hy hx ly (by omega) hn y.length)
   ⟨0,0,yj n 0,by simp only [go_sem,ya,yb,ax,aD hv.pu,aE _ hv.pu,aD hw.pu,aE _ hw.pu]<;>rfl,by omega,by simp,by omega,E2 (by decide) n,by rw [E3];simp [bv],fun m _=>CE n m⟩
  obtain ⟨r,e1,hr,f1,f2,f3⟩:=fin hn ly hlen hc bh aS hz;refine ⟨r,_,?_,hr,f1,f2,by rw [f3];omega⟩
  simp only [go_sem,ya,yf,ax,aD hw.pu,aE _ hw.pu,hw.len,t0,t5,t6,bN 0 0 (show y.length<n by omega),ye,kG (l:=o) (o:=y.length) (by omega)]
  simp only [go_sem,BC _ (n:=n) (l:=o.set y.length c) (by simp [hlen]) true,e1,hr.shut,hr.fO]
 ·obtain ⟨n,hn⟩:∃n,n=x.length+1:=⟨_,rfl⟩;unfold ak;rw [aH h]
  simp only [go_sem,ya,yb,JE,hv.len,hw.len,show ¬(x.length:Int)<y.length by omega,wrapN (n:=n) (by omega),show (x.length:Int)+1=((x.length+1:Nat):Int) from rfl,<-hn,Dw (n:=n) _ (by omega)];generalize hq:D P L (.loop [0,1,5,6,21,22] CL) _=q;obtain ⟨ex,s,rfl,tm,c,o,rfl,rfl,t0,t5,t6,hlen,hc,bh,aS,hz⟩:=bJ hq (aiE (P:=P) (L:=L) gN hv hw hx hy lx (by omega) hn x.length)
   ⟨0,0,yj n 0,by simp only [go_sem,ya,yb,ax,aD hv.pu,aE _ hv.pu,aD hw.pu,aE _ hw.pu]<;>rfl,by omega,by simp,by omega,E2 (by decide) n,by rw [E3];simp [bv],fun m _=>CE n m⟩
  obtain ⟨r,e1,hr,f1,f2,f3⟩:=fin hn lx hlen hc bh aS hz;refine ⟨r,_,?_,hr,f1,f2,f3⟩
  simp only [go_sem,ya,yf,ax,aD hv.pu,aE _ hv.pu,hv.len,t0,t5,t6,bN 0 0 (show x.length<n by omega),ye,kG (l:=o) (o:=x.length) (by omega)]
  simp only [go_sem,BC _ (n:=n) (l:=o.set x.length c) (by simp [hlen]) true,e1,hr.shut,hr.fO]
end
end
section
open Go (IntKind)
def aqP {b:Nat} {out:List Nat} {p j c t o x y Y bo ba:Nat} (ho:o=out.getD j 0) (hj:j<out.length) (ht:t=o+x*y+c) (hv:bo+p*c=ba+p*(x*Y)) (hb:bo=bv b out) (hp:p=b^j):
  bv b (out.set j (t%b))+p*b*(t/b)=ba+p*(x*(Y+0))+p*(x*y):=by
 have h1:=nX (b:=b) (x:=t%b) hj;have h2:=L7 p b t
 grind
section
variable {P:aK} {L:Lib}
def R4 {x y c:Nat} (hx:x<18446744073709551616) (hy:y<18446744073709551616) (hc:c<=1):
  (x+18446744073709551616*2-y-c)%18446744073709551616+y+c=x+18446744073709551616*(if y+c<=x then 0 else 1):=by grind
def ayD (ss:L.pure 173=some A3) {v w:AV} {x y:List Nat} (hv:bV v x) (hw:bV w y) (hx:lo 18446744073709551616 x) (hy:lo 18446744073709551616 y) (lx:x.length<=99999999999) (ly:y.length<=x.length) (hle:bv 18446744073709551616 y<=bv 18446744073709551616 x) {n:Nat} (hn:n=x.length):
  ∀k s,(∃(i c:Nat) (out:List Nat),aI [0,1,5,6,13,14] s=⟨[(0,v),(1,w),(5,.ao 0 0 n),(6,uc c),(13,ab x.length),(14,ab i)],[(0,.cells true true true 1 (out.map uc))],1,0⟩/\i+k=x.length/\out.length=n/\c<=1/\lo 18446744073709551616 out/\
    bv 18446744073709551616 out+bv 18446744073709551616 (y.take i)=bv 18446744073709551616 (x.take i)+18446744073709551616^i*c/\(∀m,i<=m->out.getD m 0=0))->
   ∃ex s',D P L (.loop [0,1,5,6,13,14] EM) s=some (ex,s')/\∃tm out,s'=⟨tm,[(0,.cells true true true 1 (out.map uc))],1,0⟩/\ex= .exit 0/\ai tm 5= .ao 0 0 n/\out.length=n/\lo 18446744073709551616 out/\
    bv 18446744073709551616 out+bv 18446744073709551616 y=bv 18446744073709551616 x:=by
 intro dq sq;generalize bk:aI [0,1,5,6,13,14] sq=s0;revert bk s0 sq dq;apply du;rintro k s ⟨i,c,out,rfl,hk,hlen,hc,bh,aS,gE⟩;by_cases hi:i<x.length
 ·left
  have hz:=gE i (yu _);have gx:=gV (show 0<18446744073709551616 by decide) hx i;have gy:=gV (show 0<18446744073709551616 by decide) hy i;have kZ:=R4 gx gy hc;have kP:=aqO (x:=x) (y:=y) (show i<out.length by omega) hz kZ aS;have e1:=S6 (P:=P) (f:=D P L) ss gx gy hc;have ex:=hv.aY hi;generalize x.getD i 0=p at*
  have lf:(if y.getD i 0+c<=p then 0 else 1)<=1:=by split<;>omega
  by_cases hj:i<y.length
  ·have ey:=hw.aY hj;generalize y.getD i 0=q at*
   generalize (if q+c<=p then 0 else 1)=c1 at*
   simp only [go_sem,ya,xt,yf,EM,hw.len,show (i:Int)<x.length by omega,show (i:Int)<y.length by omega,ex,ey,e1,bN 0 0 (show i<n by omega),ye,kG (l:=out) (o:=i) (by omega)]
   refine ⟨_,k-1,rfl,by omega,i+1,c1,_,?_,by omega,by simp [hlen],lf,ml bh (x:=(p+18446744073709551616*2-q-c)%18446744073709551616) (i:=i) (by omega),kP,fun m hm=>?_⟩
   ·rw [wrap64 (by omega) (by omega)];simp only [go_sem,ya,yb,xt,ax,aD hv.pu,aE _ hv.pu,aD hw.pu,aE _ hw.pu]<;>rfl
   ·rw [pn (by omega)];exact gE m (by omega)
  ·have jW:y.getD i 0=0:=SV (by omega);rw [jW] at kP e1 lf;rw [show (uc 0)=AV.int .u64 0 from rfl] at e1;generalize (if 0+c<=p then 0 else 1)=c1 at*
   simp only [go_sem,ya,xt,yf,EM,hw.len,show (i:Int)<x.length by omega,show ¬(i:Int)<y.length by omega,ex,e1,bN 0 0 (show i<n by omega),ye,kG (l:=out) (o:=i) (by omega)]
   refine ⟨_,k-1,rfl,by omega,i+1,c1,_,?_,by omega,by simp [hlen],lf,ml bh (x:=(p+18446744073709551616*2-0-c)%18446744073709551616) (i:=i) (by omega),kP,fun m hm=>?_⟩
   ·rw [wrap64 (by omega) (by omega)];simp only [go_sem,ya,yb,xt,ax,aD hv.pu,aE _ hv.pu,aD hw.pu,aE _ hw.pu]<;>rfl
   ·rw [pn (by omega)];exact gE m (by omega)
 ·right
  have:i=x.length:=by omega
  subst this;rw [xD,yN ly] at aS;have aW:=mr bh;rw [hlen,hn] at aW;simp only [go_sem,ya,EM,show ¬(x.length:Int)<x.length by omega];refine ⟨_,_,rfl,by simp,_,out,rfl,rfl,by simp only [go_sem,ya],hlen,bh,?_⟩;rcases (show c=0\/c=1 by omega) with rfl | rfl
  ·omega
  ·omega
def akY (h:Has P L 159 Ob) (mz:Has P L 166 Bq) (ss:L.pure 173=some A3) {v w:AV} {x y:List Nat} (hv:bV v x) (hw:bV w y) (hx:lo 18446744073709551616 x) (hy:lo 18446744073709551616 y) (ny:gQ y) (lx:x.length<=99999999999) (hle:bv 18446744073709551616 y<=bv 18446744073709551616 x):
  ∃r out,ak P L 159 [v,w] r/\bV r out/\lo 18446744073709551616 out/\gQ out/\bv 18446744073709551616 out+bv 18446744073709551616 y=bv 18446744073709551616 x:=by
 have ly:y.length<=x.length:=by
  by_cases hh:x.length<y.length
  ·have:=MV (b:=18446744073709551616) (by decide) hx ny hh
   omega
  ·omega
 obtain ⟨n,hn⟩:∃n,n=x.length:=⟨_,rfl⟩;unfold ak;rw [aH h]
 simp only [go_sem,ya,yb,Ob,hv.len,<-hn,Dw (n:=n) _ (by omega)];generalize hq:D P L (.loop [0,1,5,6,13,14] EM) _=q;obtain ⟨ex,s,rfl,tm,o,rfl,rfl,t5,hlen,bh,aS⟩:=bJ hq (ayD (P:=P) (L:=L) ss hv hw hx hy lx ly hle hn x.length)
  ⟨0,0,yj n 0,by rw [hn];simp only [go_sem,ya,yb,ax,aD hv.pu,aE _ hv.pu,aD hw.pu,aE _ hw.pu]<;>rfl,by omega,by simp,by omega,E2 (by decide) n,by rw [E3];simp [bv],fun m _=>CE n m⟩
 have hf:=mQ true o;rw [hlen] at hf;obtain ⟨r,e1,hr⟩:=BD mz hf (by omega);refine ⟨r,_,?_,hr,AX bh,AW _,by rw [AU];exact aS⟩
 simp only [go_sem,yb,ax,t5,BC _ (n:=n) (l:=o) hlen true,e1,hr.shut,hr.fO]
def asU {x y o c:Nat} (hx:x<18446744073709551616) (hy:y<18446744073709551616) (ho:o<18446744073709551616) (hc:c<18446744073709551616):
  o+x*y+c<18446744073709551616*18446744073709551616/\
  ((x*y%18446744073709551616+o+0)%18446744073709551616+c+0)%18446744073709551616=(o+x*y+c)%18446744073709551616/\
  x*y/18446744073709551616+(x*y%18446744073709551616+o+0)/18446744073709551616+((x*y%18446744073709551616+o+0)%18446744073709551616+c+0)/18446744073709551616=(o+x*y+c)/18446744073709551616:=by
 have h1:=vj (show x<=18446744073709551615 by omega) (show y<=18446744073709551615 by omega)
 grind
def ayE (mA:L.pure 143=some rT) (gN:L.pure 171=some nV) {v w:AV} {x y:List Nat} (hv:bV v x) (hw:bV w y) (hx:lo 18446744073709551616 x) (hy:lo 18446744073709551616 y) (lx:x.length<=49999999999) (ly:y.length<=49999999999) {n i:Nat} (hn:n=x.length+y.length) (hi:i<x.length) {a:Nat} (ha:a<18446744073709551616) {bo:Nat}:
  ∀k s,(∃(j c:Nat) (out:List Nat),aI [1,5,6,7,8,20,21,22,27,28,29] s=⟨[(1,w),(5,.ao 0 0 n),(6,ab i),(7,uc a),(8,uc c),(20,v),(21,ab x.length),(22,ab i),(27,w),(28,ab y.length),(29,ab j)],[(0,.cells true true true 1 (out.map uc))],1,0⟩/\j+k=y.length/\out.length=n/\c<18446744073709551616/\lo 18446744073709551616 out/\
    bv 18446744073709551616 out+18446744073709551616^(i+j)*c=bo+18446744073709551616^i*(a*bv 18446744073709551616 (y.take j))/\(∀m,i+y.length<=m->out.getD m 0=0))->
   ∃ex s',D P L (.loop [1,5,6,7,8,20,21,22,27,28,29] IL) s=some (ex,s')/\∃tm c out,s'=⟨tm,[(0,.cells true true true 1 (out.map uc))],1,0⟩/\ex= .exit 2/\ai tm 1=w/\ai tm 5= .ao 0 0 n/\ai tm 6=ab i/\ai tm 8=uc c/\ai tm 20=v/\ai tm 21=ab x.length/\ai tm 22=ab i/\out.length=n/\c<18446744073709551616/\lo 18446744073709551616 out/\
    bv 18446744073709551616 out+18446744073709551616^(i+y.length)*c=bo+18446744073709551616^i*(a*bv 18446744073709551616 y)/\(∀m,i+y.length<=m->out.getD m 0=0):=by
 intro dq sq;generalize bk:aI [1,5,6,7,8,20,21,22,27,28,29] sq=s0;revert bk s0 sq dq;apply du;rintro k s ⟨j,c,out,rfl,hk,hlen,hc,bh,aS,gE⟩;by_cases hj:j<y.length
 ·left
  have iQ:(0:Nat)<18446744073709551616:=by decide
  have gy:=gV iQ hy j;have nF:=gV iQ bh (i+j);have ey:=hw.aY hj;have e3:=zL (l:=out) (o:=i+j) (by omega);obtain ⟨q,hq⟩:∃q,q=y.getD j 0:=⟨_,rfl⟩;obtain ⟨o,ho⟩:∃o,o=out.getD (i+j) 0:=⟨_,rfl⟩;rw [<-hq] at gy ey;rw [<-ho] at nF e3;obtain ⟨m1,m2,m3⟩:=asU ha gy nF hc;have hpy:a*q<18446744073709551616*18446744073709551616:=by omega
  have f1:=Ns (P:=P) (f:=D P L) mA ha gy;have f2:=C3 (P:=P) (f:=D P L) gN (x:=a*q%18446744073709551616) (y:=o) (c:=0) (xF _ iQ) nF (by omega);have f3:=C3 (P:=P) (f:=D P L) gN (x:=(a*q%18446744073709551616+o+0)%18446744073709551616) (y:=c) (c:=0) (xF _ iQ) hc (by omega);obtain ⟨t,ht⟩:∃t,t=o+a*q+c:=⟨_,rfl⟩;have kP:=aqP (b:=18446744073709551616) (out:=out) (p:=18446744073709551616^(i+j)) (j:=i+j) (c:=c) (t:=t) (x:=a) (y:=q) (Y:=0) (ba:=bo+18446744073709551616^i*(a*bv 18446744073709551616 (y.take j))) ho (by omega) ht (by simpa using aS) rfl rfl;rw [m2,<-ht] at f3;rw [<-ht] at m1 m3;obtain ⟨d1,jh⟩:∃d,d=(a*q%18446744073709551616+o+0)/18446744073709551616:=⟨_,rfl⟩;obtain ⟨d2,fF⟩:∃d,d=((a*q%18446744073709551616+o+0)%18446744073709551616+c+0)/18446744073709551616:=⟨_,rfl⟩;rw [<-jh] at f2 m3;rw [<-fF] at f3 m3
  rw [show (uc 0)=AV.int .u64 0 from rfl] at f2 f3;obtain ⟨h1,ia⟩:∃d,d=a*q/18446744073709551616:=⟨_,rfl⟩;rw [<-ia] at f1 m3;have nv:h1+d1<18446744073709551616:=by omega
  have An:h1+d1+d2<18446744073709551616:=by omega
  simp only [go_sem,ya,yf,IL,show (j:Int)<y.length by omega,ey,f1,wrapN (n:=i+j) (by omega),show (i:Int)+(j:Int)=((i+j:Nat):Int) from rfl,bN 0 0 (show i+j<n by omega),ye,e3,f2,f3,show (h1:Int)+(d1:Int)=((h1+d1:Nat):Int) from rfl,ajm nv,show ((h1+d1:Nat):Int)+(d2:Int)=((h1+d1+d2:Nat):Int) from rfl,ajm An,kG (l:=out) (o:=i+j) (by omega)]
  refine ⟨_,k-1,rfl,by omega,j+1,h1+d1+d2,_,?_,by omega,by simp [hlen],An,ml bh (x:=t%18446744073709551616) (i:=i+j) (xF _ iQ),?_,fun m hm=>?_⟩
  ·rw [wrap64 (by omega) (by omega)];simp only [go_sem,ya,yb,ax,aD hv.pu,aE _ hv.pu,aD hw.pu,aE _ hw.pu]<;>rfl
  ·rw [m3,show i+(j+1)=i+j+1 by omega,xd,ju,<-hq,xI a,xI (18446744073709551616^i)];simp only [xJ,yY] at kP;rw [kP,wS,<-Nat.add_assoc,xo (18446744073709551616^i),<-xo a,xL a (18446744073709551616^j),xo]
  ·rw [pn (by omega)];exact gE m hm
 ·right
  have:j=y.length:=by omega
  subst this;rw [xD] at aS;simp only [go_sem,ya,IL,show ¬(y.length:Int)<y.length by omega];exact ⟨_,_,rfl,by simp,_,c,out,rfl,rfl,by simp only [go_sem,ya],by simp only [go_sem,ya],by simp only [go_sem,ya],by simp only [go_sem,ya],by simp only [go_sem,ya],by simp only [go_sem,ya],by simp only [go_sem,ya],hlen,hc,bh,aS,gE⟩
def ayF (mA:L.pure 143=some rT) (gN:L.pure 171=some nV) {v w:AV} {x y:List Nat} (hv:bV v x) (hw:bV w y) (hx:lo 18446744073709551616 x) (hy:lo 18446744073709551616 y) (lx:x.length<=49999999999) (ly:y.length<=49999999999) {n:Nat} (hn:n=x.length+y.length):
  ∀k s,(∃(i:Nat) (out:List Nat),aI [1,5,20,21,22] s=⟨[(1,w),(5,.ao 0 0 n),(20,v),(21,ab x.length),(22,ab i)],[(0,.cells true true true 1 (out.map uc))],1,0⟩/\i+k=x.length/\out.length=n/\lo 18446744073709551616 out/\
    bv 18446744073709551616 out=bv 18446744073709551616 (x.take i)*bv 18446744073709551616 y/\(∀m,i+y.length<=m->out.getD m 0=0))->
   ∃ex s',D P L (.loop [1,5,20,21,22] IM) s=some (ex,s')/\∃tm out,s'=⟨tm,[(0,.cells true true true 1 (out.map uc))],1,0⟩/\ex= .exit 0/\ai tm 5= .ao 0 0 n/\out.length=n/\lo 18446744073709551616 out/\
    bv 18446744073709551616 out=bv 18446744073709551616 x*bv 18446744073709551616 y:=by
 intro dq sq;generalize bk:aI [1,5,20,21,22] sq=s0;revert bk s0 sq dq;apply du;rintro k s ⟨i,out,rfl,hk,hlen,bh,aS,gE⟩;by_cases hi:i<x.length
 ·left
  have gx:=gV (show 0<18446744073709551616 by decide) hx i;have ex:=hv.aY hi;obtain ⟨a,ha⟩:∃a,a=x.getD i 0:=⟨_,rfl⟩;simp only [go_sem,ya,IM,hw.len,show (i:Int)<x.length by omega,ex];generalize hq:D P L (.loop [1,5,6,7,8,20,21,22,27,28,29] IL) _=q;obtain ⟨ex,s,rfl,tm,c,su,rfl,rfl,t1,t5,t6,t8,t20,t21,t22,TF,hc,aBX,TG,Kf⟩:=bJ hq (ayE (P:=P) (L:=L) mA gN hv hw hx hy lx ly hn hi gx (bo:=bv 18446744073709551616 out) y.length)
   ⟨0,0,out,by simp only [go_sem,ya,yb,ax,aD hv.pu,aE _ hv.pu,aD hw.pu,aE _ hw.pu]<;>rfl,by omega,hlen,by decide,bh,by simp [bv],gE⟩
  have hz:su.getD (i+y.length) 0=0:=Kf _ (yu _);have a7:=nX (b:=18446744073709551616) (l:=su) (i:=i+y.length) (x:=c) (by omega);rw [hz,xJ,yY,TG] at a7
  simp only [go_sem,ya,yf,ax,t1,t5,t6,t8,t20,t21,t22,hw.len,aD hv.pu,aE _ hv.pu,aD hw.pu,aE _ hw.pu,wrapN (n:=i+y.length) (by omega),show (i:Int)+(y.length:Int)=((i+y.length:Nat):Int) from rfl,bN 0 0 (show i+y.length<n by omega),ye,kG (l:=su) (o:=i+y.length) (by omega)];refine ⟨_,k-1,rfl,by omega,i+1,su.set (i+y.length) c,?_,by omega,by simp [TF],ml aBX hc,?_,fun m hm=>?_⟩
  ·rw [wrap64 (by omega) (by omega)];simp only [go_sem,ya,yb,ax,aD hv.pu,aE _ hv.pu,aD hw.pu,aE _ hw.pu]<;>rfl
  ·rw [a7,aS,ju,wJ,<-ha,xo]
  ·rw [pn (by omega)];exact Kf m (by omega)
 ·right
  have:i=x.length:=by omega
  subst this;rw [xD] at aS;simp only [go_sem,ya,IM,show ¬(x.length:Int)<x.length by omega];exact ⟨_,_,rfl,by simp,_,out,rfl,rfl,by simp only [go_sem,ya],hlen,bh,aS⟩
def aBY (h:Has P L 144 N8) (mz:Has P L 166 Bq) (mA:L.pure 143=some rT) (gN:L.pure 171=some nV) {v w:AV} {x y:List Nat} (hv:bV v x) (hw:bV w y) (hx:lo 18446744073709551616 x) (hy:lo 18446744073709551616 y) (lx:x.length<=49999999999) (ly:y.length<=49999999999):
  ∃r out,ak P L 144 [v,w] r/\bV r out/\lo 18446744073709551616 out/\gQ out/\bv 18446744073709551616 out=bv 18446744073709551616 x*bv 18446744073709551616 y:=by
 obtain ⟨n,hn⟩:∃n,n=x.length+y.length:=⟨_,rfl⟩;unfold ak;rw [aH h]
 simp only [go_sem,ya,yb,N8,hv.len,hw.len,wrapN (n:=n) (by omega),show (x.length:Int)+(y.length:Int)=((x.length+y.length:Nat):Int) from rfl,<-hn,Dw (n:=n) _ (by omega)];generalize hq:D P L (.loop [1,5,20,21,22] IM) _=q;obtain ⟨ex,s,rfl,tm,o,rfl,rfl,t5,hlen,bh,aS⟩:=bJ hq (ayF (P:=P) (L:=L) mA gN hv hw hx hy lx ly hn x.length)
  ⟨0,yj n 0,by simp only [go_sem,ya,yb,ax,aD hv.pu,aE _ hv.pu,aD hw.pu,aE _ hw.pu]<;>rfl,by omega,by simp,E2 (by decide) n,by rw [E3];simp [bv],fun m _=>CE n m⟩
 have hf:=mQ true o;rw [hlen] at hf;obtain ⟨r,e1,hr⟩:=BD mz hf (by omega);refine ⟨r,_,?_,hr,AX bh,AW _,by rw [AU];exact aS⟩
 simp only [go_sem,yb,ax,t5,BC _ (n:=n) (l:=o) hlen true,e1,hr.shut,hr.fO]
end
end
section
open Go (IntKind)
def NM (n:Int):IntKind.wrap .u64 n=n%18446744073709551616:=by
 simp [IntKind.wrap,IntKind.signed,IntKind.bits]
def wrapM (n:Nat):IntKind.wrap .u64 (n:Int)=((n%18446744073709551616:Nat):Int):=by rw [NM];omega
def pO (a b:Nat):binOp .mul (uc a) (uc b)=some (uc (a*b%18446744073709551616)):=by
 rw [ahk,<-ve,wrapM]
def Bk (a b:Nat):binOp .add (uc a) (uc b)=some (uc ((a+b)%18446744073709551616)):=by
 rw [ahj,<-Int.natCast_add,wrapM]
def Dx {a b c:Nat} (h:(a+18446744073709551616-b)%18446744073709551616=c) (hb:b<=18446744073709551616):binOp .sub (uc a) (uc b)=some (uc c):=by
 rw [MW,NM]
 grind
def ayG (k k':y7) (a b:Int):binOp .shl (.int k a) (.int k' b)=CB .shl k a b:=rfl
def ayH (k k':y7) (a b:Int):binOp .shr (.int k a) (.int k' b)=CB .shr k a b:=rfl
def Kg (k:y7) (a:Nat) {s:Nat} (hs:s<=64):binOp .shl (.int .u64 (a:Int)) (.int k (s:Int))=some (uc (a*2^s%18446744073709551616)):=by
 rw [ayG];simp only [CB,yx (show ¬(s:Int)<0 by omega),xX,IntKind.bits,xA hs];rw [show ((2:Int)^s)=((2^s:Nat):Int) by simp,<-ve,wrapM]
def Kh (k:y7) (a:Nat) {s:Nat} (hs:s<=64):binOp .shr (.int .u64 (a:Int)) (.int k (s:Int))=some (uc (a/2^s)):=by
 rw [ayH];simp only [CB,yx (show ¬(s:Int)<0 by omega),xX,IntKind.bits,xA hs]
 grind
def akZ (a:Nat):binOp .and (.int .u64 (a:Int)) (.int .u64 4294967295)=some (uc (a%4294967296)):=by
 show some (AV.int .u64 (IntKind.wrap .u64 ((xQ 64 (a:Int)&&&xQ 64 4294967295).toNat:Int)))=_
 rw [show xQ 64 (a:Int)=uH 64 a from uI 64 a,show xQ 64 4294967295=uH 64 4294967295 from rfl];rw [BitVec.toNat_and,vJ,vJ,show (4294967295%2^64:Nat)=2^32-1 from rfl,Nat.and_two_pow_sub_one_eq_mod,wrapM]
 grind
def Z7 {a b:Nat} (ha:a<18446744073709551616) (hb:b<18446744073709551616):binOp .or (.int .u64 (a:Int)) (.int .u64 (b:Int))=some (uc (a|||b)):=by
 show some (AV.int .u64 (IntKind.wrap .u64 ((xQ 64 (a:Int)|||xQ 64 (b:Int)).toNat:Int)))=_
 congr 2
 rw [show xQ 64 (a:Int)=uH 64 a from uI 64 a,show xQ 64 (b:Int)=uH 64 b from uI 64 b];rw [BitVec.toNat_or,vJ,vJ,yW (show a<2^64 from ha),yW (show b<2^64 from hb),wrapM]
 have:a|||b<2^64:=Nat.or_lt_two_pow ha hb
 omega
def S7 {p s c:Nat} (h:c<2^s):(p*2^s)|||c=p*2^s+c:=by
 rw [<-Nat.shiftLeft_eq,<-Nat.shiftLeft_add_eq_or_of_lt h]
def abX:∀(f n:Nat),n<2^f->eL f n<=f/\n<2^eL f n/\(0<n->0<eL f n/\2^(eL f n-1)<=n)
 | 0,n,h=>by simp [eL];simpa using h
 | f+1,n,h=>by
  simp only [eL];by_cases h0:n=0
  ·simp_all
  ·rw [gF h0,yT];obtain ⟨h1,h2,h3⟩:=abX f (n/2) (by omega);refine ⟨by omega,?_,fun _=>⟨by omega,?_⟩⟩
   ·grind
   ·rw [Nat.add_sub_cancel_left];by_cases hn:0<n/2
    ·obtain ⟨h4,h5⟩:=h3 hn;obtain ⟨m,hm⟩:∃m,eL f (n/2)=m+1:=⟨eL f (n/2)-1,by omega⟩
     grind
    ·have hz:n/2=0:=by omega
     have:eL f 0=0:=by cases f with
      | zero=>rfl
      | succ f=>rfl
     grind
def R5 {y:Nat} (h0:0<y) (h:y<18446744073709551616):64-eL 64 y<64/\9223372036854775808<=y*2^(64-eL 64 y)/\y*2^(64-eL 64 y)<18446744073709551616:=by
 obtain ⟨h1,h2,h3⟩:=abX 64 y h;obtain ⟨h4,h5⟩:=h3 h0;generalize eL 64 y=k at*
 refine ⟨by omega,?_,?_⟩
 ·have:=yV (2^(64-k)) h5
  rw [<-wS,show k-1+(64-k)=63 by omega] at this;exact this
 ·have:=wK h2 (wL (64-k))
  rw [<-wS,show k+(64-k)=64 by omega] at this;exact this
section
variable {P:aK} {L:Lib} {f:cA}
def aiF (h:L.pure 167=some Fa) {x:Nat} (hx:x<18446744073709551616):bL P L f 167 [uc x]=some (ab (64-eL 64 x:Nat)):=by
 rw [jr h];show (bif yQ x 18446744073709551616 then _ else none)=_
 rw [kO hx];rfl
def aqQ {b v1 v2 u u2 t r:Nat} (dH:v2<b) (kF:t<b) (ht:t*v1+r=u) (h:b<=r\/t*v2<=b*r+u2):t*(v1*b+v2)<=u*b+u2:=by
 have h2:t*v2<=b*r+u2:=by
  rcases h with h | h
  ·have:=vj (uX kF) (uX dH)
   have:=yZ b h
   omega
  ·exact h
 rw [xI,<-xo,<-ht,wJ,xL r b];omega
def aAI (n:Nat):pG (.toInt .u64) (.int .i64 (n:Int))=some (uc (n%18446744073709551616)):=by
 show some (AV.int .u64 (IntKind.wrap .u64 (n:Int)))=_
 rw [wrapM]
def abp {y v1 v2 u u2 q r:Nat} (hy:y=v1*4294967296+v2) (dH:v2<4294967296) (GA:0<v1) (eZ:v1<4294967296) (hu:u<y) (Au:u2<4294967296) (hq:q*v1+r=u) (hr:r<4294967296) (hQ:(u*4294967296+u2)/y<=q):
  (4294967296<=q\/4294967296*r+u2<q*v2->0<q/\(q-1)*v1+(r+v1)=u/\(u*4294967296+u2)/y<=q-1/\(4294967296<=r+v1->(u*4294967296+u2)/y=q-1))/\
  (¬4294967296<=q->q*v2<=4294967296*r+u2->(u*4294967296+u2)/y=q):=by
 have jW:0<y:=by omega
 have Qc:∀t s,t*v1+s=u->4294967296<=t->s<4294967296:=fun t s h1 h2=>by
  have:=yV v1 h2
  grind
 have aiG:∀t s,t*v1+s=u->t<4294967296->(4294967296<=s\/t*v2<=4294967296*s+u2)->(u*4294967296+u2)/y<=t->(u*4294967296+u2)/y=t:=fun t s h1 h2 h3 h4=>by
  have:=aqQ dH h2 h1 h3
  rw [<-hy] at this
  have:=(Nat.le_div_iff_mul_le jW).2 this
  omega
 constructor
 ·intro h;have bk:0<q:=by
   grind
  have h1:(q-1)*v1+(r+v1)=u:=by
   obtain ⟨p,rfl⟩:∃p,q=p+1:=⟨q-1,by omega⟩
   grind
  have h2:(u*4294967296+u2)/y<=q-1:=by
   have aW:u*4294967296+u2<q*y:=by
    rcases h with h | h
    ·have h3:u*4294967296+u2<4294967296*y:=by omega
     exact yU h3 (yV y h)
    ·rw [hy,xI,<-xo,<-hq,wJ,xL r];omega
   have:=(wg jW).2 aW
   omega
  exact ⟨bk,h1,h2,fun h3=>aiG _ _ h1 (by
   by_cases hb:4294967296<=q-1
   ·have:=Qc _ _ h1 hb;omega
   ·omega) (.inl h3) h2⟩
 ·intro h1 h2;exact aiG q r hq (by omega) (.inr h2) hQ
def ayI {y s v1 v2 u u2 z:Nat} (hy:y=v1*4294967296+v2) (dH:v2<4294967296) (GA:0<v1) (eZ:v1<4294967296) (hu:u<y) (Au:u2<4294967296):
  ∀k st,(∃q r:Nat,aI [2,8,9,10,11,13,14,15,16] st=⟨[(2,uc y),(8,uc s),(9,uc v1),(10,uc v2),(11,uc u),(13,uc u2),(14,uc z),(15,uc q),(16,uc r)],[],0,0⟩/\q*v1+r=u/\r<4294967296/\(u*4294967296+u2)/y<=q/\q=k)->
   ∃ex st',D P L (.loop [2,8,9,10,11,13,14,15,16] A4) st=some (ex,st')/\∃tm ct,st'=⟨tm,[],ct,0⟩/\ex= .exit 0/\ai tm 2=uc y/\ai tm 8=uc s/\ai tm 9=uc v1/\ai tm 10=uc v2/\ai tm 11=uc u/\ai tm 13=uc u2/\ai tm 14=uc z/\ai tm 15=uc ((u*4294967296+u2)/y):=by
 intro dq sq;generalize bk:aI [2,8,9,10,11,13,14,15,16] sq=s0;revert bk s0 sq dq;apply du;rintro k st ⟨q,r,rfl,hq,hr,hQ,rfl⟩;obtain ⟨g1,g2⟩:=abp hy dH GA eZ hu Au hq hr hQ;have hqb:q*1<=q*v1:=yZ q GA;have aBZ:=yV 4294967296 (show v1<=4294967295 by omega);have oM:q<18446744073709551616:=by omega
 have ZF:=yZ 4294967296 (show r<=4294967295 by omega);have e1:=pO 4294967296 r;rw [show uc 4294967296=AV.int .u64 4294967296 from rfl,yW (show 4294967296*r<18446744073709551616 by omega)] at e1;have e2:=Bk (4294967296*r) u2;rw [yW (show 4294967296*r+u2<18446744073709551616 by omega)] at e2;have e4:=Bk r v1;rw [yW (show r+v1<18446744073709551616 by omega)] at e4;by_cases hc:4294967296<=q\/4294967296*r+u2<q*v2
 ·obtain ⟨h0,h1,h2,h3⟩:=g1 hc;have e3:binOp .sub (uc q) (.int .u64 1)=some (uc (q-1)):=Dx (b:=1) (by omega) (by omega);by_cases hb:4294967296<=r+v1
  ·right
   have Av:=h3 hb;rcases (show 4294967296<=q\/(¬4294967296<=q/\4294967296*r+u2<q*v2) by omega) with t1 | ⟨t1,t2⟩
   ·simp only [go_sem,ya,A4,show (4294967296:Int)<=(q:Int) by omega,e3,e4,show (4294967296:Int)<=((r+v1:Nat):Int) by omega];exact ⟨_,_,rfl,by simp,_,_,rfl,rfl,by simp only [go_sem,ya],by simp only [go_sem,ya],by simp only [go_sem,ya],by simp only [go_sem,ya],by simp only [go_sem,ya],by simp only [go_sem,ya],by simp only [go_sem,ya],by rw [Av];simp only [go_sem,ya]⟩
   ·have Z8:=vj (show q<=4294967295 by omega) (show v2<=4294967295 by omega);have e5:=pO q v2;rw [yW (show q*v2<18446744073709551616 by omega)] at e5;simp only [go_sem,ya,A4,show ¬(4294967296:Int)<=(q:Int) by omega,e5,e1,e2,show ((4294967296*r+u2:Nat):Int)<((q*v2:Nat):Int) by omega,e3,e4,show (4294967296:Int)<=((r+v1:Nat):Int) by omega];exact ⟨_,_,rfl,by simp,_,_,rfl,rfl,by simp only [go_sem,ya],by simp only [go_sem,ya],by simp only [go_sem,ya],by simp only [go_sem,ya],by simp only [go_sem,ya],by simp only [go_sem,ya],by simp only [go_sem,ya],by rw [Av];simp only [go_sem,ya]⟩
  ·left
   rcases (show 4294967296<=q\/(¬4294967296<=q/\4294967296*r+u2<q*v2) by omega) with t1 | ⟨t1,t2⟩
   ·simp only [go_sem,ya,A4,show (4294967296:Int)<=(q:Int) by omega,e3,e4,show ¬(4294967296:Int)<=((r+v1:Nat):Int) by omega];exact ⟨_,q-1,rfl,by omega,q-1,r+v1,by simp only [go_sem,ya,ax],h1,by omega,h2,rfl⟩
   ·have Z8:=vj (show q<=4294967295 by omega) (show v2<=4294967295 by omega);have e5:=pO q v2;rw [yW (show q*v2<18446744073709551616 by omega)] at e5;simp only [go_sem,ya,A4,show ¬(4294967296:Int)<=(q:Int) by omega,e5,e1,e2,show ((4294967296*r+u2:Nat):Int)<((q*v2:Nat):Int) by omega,e3,e4,show ¬(4294967296:Int)<=((r+v1:Nat):Int) by omega];exact ⟨_,q-1,rfl,by omega,q-1,r+v1,by simp only [go_sem,ya,ax],h1,by omega,h2,rfl⟩
 ·right
  have Av:=g2 (by omega) (by omega);have e5:=pO q v2;rw [yW (show q*v2<18446744073709551616 by omega)] at e5;simp only [go_sem,ya,A4,show ¬(4294967296:Int)<=(q:Int) by omega,e5,e1,e2,show ¬((4294967296*r+u2:Nat):Int)<((q*v2:Nat):Int) by omega];exact ⟨_,_,rfl,by simp,_,_,rfl,rfl,by simp only [go_sem,ya],by simp only [go_sem,ya],by simp only [go_sem,ya],by simp only [go_sem,ya],by simp only [go_sem,ya],by simp only [go_sem,ya],by simp only [go_sem,ya],by rw [Av];simp only [go_sem,ya]⟩
end
end
section
open Go (IntKind)
section
variable {P:aK} {L:Lib} {f:cA}
def ayJ {y s v1 v2 u u2 z:Nat} (hy:y=v1*4294967296+v2) (dH:v2<4294967296) (GA:0<v1) (eZ:v1<4294967296) (hu:u<y) (Au:u2<4294967296):
  ∀k st,(∃q r:Nat,aI [2,8,9,10,14,15,16,17,18] st=⟨[(2,uc y),(8,uc s),(9,uc v1),(10,uc v2),(14,uc u2),(15,uc z),(16,uc r),(17,uc u),(18,uc q)],[],0,0⟩/\q*v1+r=u/\r<4294967296/\(u*4294967296+u2)/y<=q/\q=k)->
   ∃ex st',D P L (.loop [2,8,9,10,14,15,16,17,18] A5) st=some (ex,st')/\∃tm ct,st'=⟨tm,[],ct,0⟩/\ex= .exit 2/\ai tm 2=uc y/\ai tm 8=uc s/\ai tm 9=uc v1/\ai tm 10=uc v2/\ai tm 14=uc u2/\ai tm 15=uc z/\ai tm 17=uc u/\ai tm 18=uc ((u*4294967296+u2)/y):=by
 intro dq sq;generalize bk:aI [2,8,9,10,14,15,16,17,18] sq=s0;revert bk s0 sq dq;apply du;rintro k st ⟨q,r,rfl,hq,hr,hQ,rfl⟩;obtain ⟨g1,g2⟩:=abp hy dH GA eZ hu Au hq hr hQ;have hqb:q*1<=q*v1:=yZ q GA;have aBZ:=yV 4294967296 (show v1<=4294967295 by omega);have oM:q<18446744073709551616:=by omega
 have ZF:=yZ 4294967296 (show r<=4294967295 by omega);have e1:=pO 4294967296 r;rw [show uc 4294967296=AV.int .u64 4294967296 from rfl,yW (show 4294967296*r<18446744073709551616 by omega)] at e1;have e2:=Bk (4294967296*r) u2;rw [yW (show 4294967296*r+u2<18446744073709551616 by omega)] at e2;have e4:=Bk r v1;rw [yW (show r+v1<18446744073709551616 by omega)] at e4;by_cases hc:4294967296<=q\/4294967296*r+u2<q*v2
 ·obtain ⟨h0,h1,h2,h3⟩:=g1 hc;have e3:binOp .sub (uc q) (.int .u64 1)=some (uc (q-1)):=Dx (b:=1) (by omega) (by omega);by_cases hb:4294967296<=r+v1
  ·right
   have Av:=h3 hb;rcases (show 4294967296<=q\/(¬4294967296<=q/\4294967296*r+u2<q*v2) by omega) with t1 | ⟨t1,t2⟩
   ·simp only [go_sem,ya,A5,show (4294967296:Int)<=(q:Int) by omega,e3,e4,show (4294967296:Int)<=((r+v1:Nat):Int) by omega];exact ⟨_,_,rfl,by simp,_,_,rfl,rfl,by simp only [go_sem,ya],by simp only [go_sem,ya],by simp only [go_sem,ya],by simp only [go_sem,ya],by simp only [go_sem,ya],by simp only [go_sem,ya],by simp only [go_sem,ya],by rw [Av];simp only [go_sem,ya]⟩
   ·have Z8:=vj (show q<=4294967295 by omega) (show v2<=4294967295 by omega);have e5:=pO q v2;rw [yW (show q*v2<18446744073709551616 by omega)] at e5;simp only [go_sem,ya,A5,show ¬(4294967296:Int)<=(q:Int) by omega,e5,e1,e2,show ((4294967296*r+u2:Nat):Int)<((q*v2:Nat):Int) by omega,e3,e4,show (4294967296:Int)<=((r+v1:Nat):Int) by omega];exact ⟨_,_,rfl,by simp,_,_,rfl,rfl,by simp only [go_sem,ya],by simp only [go_sem,ya],by simp only [go_sem,ya],by simp only [go_sem,ya],by simp only [go_sem,ya],by simp only [go_sem,ya],by simp only [go_sem,ya],by rw [Av];simp only [go_sem,ya]⟩
  ·left
   rcases (show 4294967296<=q\/(¬4294967296<=q/\4294967296*r+u2<q*v2) by omega) with t1 | ⟨t1,t2⟩
   ·simp only [go_sem,ya,A5,show (4294967296:Int)<=(q:Int) by omega,e3,e4,show ¬(4294967296:Int)<=((r+v1:Nat):Int) by omega];exact ⟨_,q-1,rfl,by omega,q-1,r+v1,by simp only [go_sem,ya,ax],h1,by omega,h2,rfl⟩
   ·have Z8:=vj (show q<=4294967295 by omega) (show v2<=4294967295 by omega);have e5:=pO q v2;rw [yW (show q*v2<18446744073709551616 by omega)] at e5;simp only [go_sem,ya,A5,show ¬(4294967296:Int)<=(q:Int) by omega,e5,e1,e2,show ((4294967296*r+u2:Nat):Int)<((q*v2:Nat):Int) by omega,e3,e4,show ¬(4294967296:Int)<=((r+v1:Nat):Int) by omega];exact ⟨_,q-1,rfl,by omega,q-1,r+v1,by simp only [go_sem,ya,ax],h1,by omega,h2,rfl⟩
 ·right
  have Av:=g2 (by omega) (by omega);have e5:=pO q v2;rw [yW (show q*v2<18446744073709551616 by omega)] at e5;simp only [go_sem,ya,A5,show ¬(4294967296:Int)<=(q:Int) by omega,e5,e1,e2,show ¬((4294967296*r+u2:Nat):Int)<((q*v2:Nat):Int) by omega];exact ⟨_,_,rfl,by simp,_,_,rfl,rfl,by simp only [go_sem,ya],by simp only [go_sem,ya],by simp only [go_sem,ya],by simp only [go_sem,ya],by simp only [go_sem,ya],by simp only [go_sem,ya],by simp only [go_sem,ya],by rw [Av];simp only [go_sem,ya]⟩
def ajn (a:Nat):binOp .shr (.int .u64 (a:Int)) (.int .u64 32)=some (uc (a/4294967296)):=Kh .u64 a (s:=32) (by decide)
def ak0 (a:Nat) {b:Nat} (ha:a<18446744073709551616) (hb:0<b):binOp .quo (uc a) (uc b)=some (uc (a/b)):=by
 rw [gG _ _ _ (by omega),Int.tdiv_eq_ediv_of_nonneg (by omega),<-Int.natCast_ediv,wrapM,yW];exact wR (vH a b) ha
def aB0 (a:Nat) {b:Nat} (hb:0<b):binOp .rem (uc a) (uc b)=some (uc (a%b)):=by
 rw [iV _ _ _ (by omega),Int.tmod_eq_emod_of_nonneg (by omega),<-Int.natCast_emod]
def aqR {hi lo y s u z Y:Nat} (hs:s<64) (bh:lo<18446744073709551616) (hY:Y=y*2^s) (hu:u=hi*2^s+lo/2^(64-s)) (hz:z=lo*2^s%18446744073709551616):
  (hi*18446744073709551616+lo)*2^s=u*18446744073709551616+z:=by
 have e:18446744073709551616=2^(64-s)*2^s:=by rw [<-wS,show 64-s+s=64 by omega]
 have h1:lo*2^s/18446744073709551616=lo/2^(64-s):=by
  rw [e,uL _ _ (wL s)]
 grind
def acP {Y q a b:Nat} (h1:a<Y) (h2:b<4294967296) (h3:q=(a*4294967296+b)/Y):q<4294967296:=by
 rw [h3];exact (wg (by omega)).2 (by omega)
def asV {u w x z z0 z1 q0 q1 Y:Nat} (jh:q1*Y+w=u*4294967296+z1) (iC:q0*Y+x=w*4294967296+z0) (hz:z=z1*4294967296+z0):u*18446744073709551616+z=(q1*4294967296+q0)*Y+x:=by grind
def apl {q1 q0:Nat} (h1:q1<4294967296) (h0:q0<4294967296):q1*4294967296<18446744073709551616/\q1*4294967296+q0<18446744073709551616:=by omega
def ak1 (h:Has P L 165 JF) (Ki:L.pure 167=some Fa) {hi lo y:Nat} (gE:hi<y) (bh:lo<18446744073709551616) (hy:y<18446744073709551616):
  ak P L 165 [uc hi,uc lo,uc y] (.ae [uc ((hi*18446744073709551616+lo)/y),uc ((hi*18446744073709551616+lo)%y)]):=by
 have jW:0<y:=by omega
 by_cases h0:hi=0
 ·subst h0;have e1:=ak0 lo bh jW;have e2:=aB0 lo jW;rw [tS,ye];unfold ak;rw [aH h];simp only [go_sem,ya,JF,show ¬(y:Int)=0 by omega,show ¬(y:Int)<=0 by omega,show ((0:Nat):Int)=0 from rfl,e1,e2];rfl
 ·obtain ⟨s,hs⟩:∃s,s=64-eL 64 y:=⟨_,rfl⟩;have hl:=aiF (P:=P) (f:=D P L) Ki hy;obtain ⟨l1,l2,l3⟩:=R5 jW hy;rw [<-hs] at hl l1 l2 l3;obtain ⟨Y,hY⟩:∃Y,Y=y*2^s:=⟨_,rfl⟩;obtain ⟨u,hu⟩:∃u,u=hi*2^s+lo/2^(64-s):=⟨_,rfl⟩;obtain ⟨z,hz⟩:∃z,z=lo*2^s%18446744073709551616:=⟨_,rfl⟩;have hdiv:=aqR l1 bh hY hu hz;rw [<-hY] at l2 l3;have hp:=wL s;obtain ⟨v1,eZ⟩:∃v,v=Y/4294967296:=⟨_,rfl⟩;obtain ⟨v2,dH⟩:∃v,v=Y%4294967296:=⟨_,rfl⟩;have hYv:Y=v1*4294967296+v2:=by omega
  obtain ⟨z1,mG⟩:∃v,v=z/4294967296:=⟨_,rfl⟩;obtain ⟨z0,lV⟩:∃v,v=z%4294967296:=⟨_,rfl⟩;have GB:z<18446744073709551616:=by omega
  have hhY:hi*2^s<Y:=by rw [hY];exact wK gE hp
  have fZ:lo/2^(64-s)<2^s:=by
   refine (wg (wL _)).2 ?_;rw [<-wS,show s+(64-s)=64 by omega];exact bh
  have oF:hi*2^s|||lo/2^(64-s)=u:=by rw [S7 fZ,hu]
  have hN:hi*18446744073709551616+lo<y*18446744073709551616:=by
   have:=yV 18446744073709551616 (show hi+1<=y from gE)
   omega
  have Z9:u<Y:=by
   have h1:=wK hN hp;rw [hdiv,Nat.mul_right_comm,<-hY] at h1;omega
  obtain ⟨q1,fm⟩:∃q,q=(u*4294967296+z1)/Y:=⟨_,rfl⟩;obtain ⟨w,hw⟩:∃q,q=(u*4294967296+z1)%Y:=⟨_,rfl⟩;obtain ⟨q0,bk⟩:∃q,q=(w*4294967296+z0)/Y:=⟨_,rfl⟩;obtain ⟨x,hx⟩:∃q,q=(w*4294967296+z0)%Y:=⟨_,rfl⟩;have Qd:w<Y:=by rw [hw];exact xF _ (by omega)
  have hxY:x<Y:=by rw [hx];exact xF _ (by omega)
  have jh:=xU (u*4294967296+z1) Y;rw [<-fm,<-hw,xL] at jh;have iC:=xU (w*4294967296+z0) Y;rw [<-bk,<-hx,xL] at iC;have aB1:=acP Z9 (show z1<4294967296 by omega) fm;have aB2:=acP Qd (show z0<4294967296 by omega) bk;obtain ⟨td1,td2⟩:=apl aB1 aB2;have F0:(hi*18446744073709551616+lo)*2^s=(q1*4294967296+q0)*Y+x:=by
   rw [hdiv];exact asV jh iC (by omega)
  have r1:(hi*18446744073709551616+lo)/y=q1*4294967296+q0:=by
   rw [<-uL _ _ hp,F0,<-hY,xL _ Y,tB (by omega),wT hxY,yY]
  have r2:x/2^s=(hi*18446744073709551616+lo)%y:=by
   have h1:x=(hi*18446744073709551616+lo)*2^s%(y*2^s):=by
    rw [F0,<-hY,xL _ Y,tC,yW hxY]
   rw [h1,vS,Nat.mul_div_cancel _ hp]
  have o1:=Kg .u64 y (s:=s) (by omega);rw [<-hY,yW l3] at o1;have o2:=ajn Y;rw [<-eZ] at o2;have o3:=akZ Y;rw [<-dH] at o3;have o4:=Kg .u64 hi (s:=s) (by omega);rw [yW (show hi*2^s<18446744073709551616 by omega)] at o4;have o5:binOp .sub (.int .u64 64) (uc s)=some (uc (64-s)):=Dx (a:=64) (by omega) (by omega);have o6:=Kh .u64 lo (s:=64-s) (by omega);have o7:=Z7 (a:=hi*2^s) (b:=lo/2^(64-s)) (by omega) (wR (vH _ _) bh);rw [oF] at o7;have o8:=Kg .u64 lo (s:=s) (by omega);rw [<-hz] at o8;have o9:=ajn z;rw [<-mG] at o9;have o10:=akZ z;rw [<-lV] at o10;have F1:0<v1:=by omega
  have ajo:∀{a:Nat},a<Y->binOp .quo (uc a) (uc v1)=some (uc (a/v1))/\binOp .mul (uc (a/v1)) (uc v1)=some (uc (a/v1*v1))/\binOp .sub (uc a) (uc (a/v1*v1))=some (uc (a%v1)):=fun {a} ha=>by
   have h1:=xU a v1;rw [xL] at h1;have h2:=pO (a/v1) v1;generalize a/v1*v1=m at*
   rw [yW (show m<18446744073709551616 by omega)] at h2;exact ⟨ak0 a (by omega) F1,h2,Dx (by omega) (by omega)⟩
  obtain ⟨g1,g2,g3⟩:=ajo Z9;obtain ⟨g4,g5,g6⟩:=ajo Qd;have first:∀{a b:Nat},b<4294967296->(a*4294967296+b)/Y<=a/v1:=fun {a b} hb=>by
   have:=QS (b:=4294967296) (V:=Y) (v1:=v1) (v2:=v2) (vr:=0) (U:=a*4294967296+b) (u0:=0) (u1:=a) (u2:=b) (ur:=0) (p:=1) (by omega) (by omega) (by decide) hb F1
   simpa using this
  have back:∀{a b q x:Nat},a*4294967296+b=q*Y+x->x<Y->binOp .mul (uc a) (.int .u64 4294967296)=some (uc (a*4294967296%18446744073709551616))/\binOp .add (uc (a*4294967296%18446744073709551616)) (uc b)=some (uc ((a*4294967296%18446744073709551616+b)%18446744073709551616))/\
    binOp .mul (uc q) (uc Y)=some (uc (q*Y%18446744073709551616))/\binOp .sub (uc ((a*4294967296%18446744073709551616+b)%18446744073709551616)) (uc (q*Y%18446744073709551616))=some (uc x):=fun {a b q x} h1 h2=>by
   refine ⟨pO a 4294967296,Bk _ _,pO q Y,Dx ?_ (by omega)⟩;generalize q*Y=m at*
   omega
  obtain ⟨k1,k2,k3,k4⟩:=back jh.symm Qd;obtain ⟨k5,k6,k7,k8⟩:=back iC.symm hxY;have m1:=pO q1 4294967296;rw [yW td1,show uc 4294967296=AV.int .u64 4294967296 from rfl] at m1;have m2:=Bk (q1*4294967296) q0;rw [yW td2] at m2;have m3:=Kh .u64 x (s:=s) (by omega);rw [r1,<-r2];unfold ak;rw [aH h];simp only [go_sem,ya,JF,show ¬(y:Int)=0 by omega,show ¬(y:Int)<=(hi:Int) by omega,show ¬(hi:Int)=0 by omega,hl,aAI,yW (show s<18446744073709551616 by omega),o1,o2,o3,o4,o5,o6,o7,o8,o9,o10,g1,g2,g3];generalize mJ:D P L (.loop [2,8,9,10,11,13,14,15,16] A4) _=qq
  obtain ⟨ex,st,rfl,tm,ct,rfl,rfl,t2,t8,t9,t10,t11,t13,t14,t15⟩:=bJ mJ (ayI (P:=P) (L:=L) (s:=s) (z:=z0) hYv (by omega) F1 (by omega) Z9 (show z1<4294967296 by omega) (u/v1)) ⟨u/v1,u%v1,by simp only [go_sem,ya,ax],by rw [xL];exact xU u v1,by have:=xF u F1;omega,first (by omega),rfl⟩
  rw [<-fm] at t15;simp only [go_sem,ya,ax,t2,t8,t9,t10,t11,t13,t14,t15,k1,k2,k3,k4,g4,g5,g6];generalize Dy:D P L (.loop [2,8,9,10,14,15,16,17,18] A5) _=qq2;obtain ⟨ex,st,rfl,sE,GC,rfl,rfl,t2,t8,t9,t10,t14,t15,t17,t18⟩:=bJ Dy (ayJ (P:=P) (L:=L) (s:=s) (z:=q1) hYv (by omega) F1 (by omega) Qd (show z0<4294967296 by omega) (w/v1)) ⟨w/v1,w%v1,by simp only [go_sem,ya,ax],by rw [xL];exact xU w v1,by have:=xF w F1;omega,first (by omega),rfl⟩
  rw [<-bk] at t18;simp only [go_sem,ya,ax,t2,t8,t14,t15,t17,t18,m1,m2,k5,k6,k7,k8,m3];rfl
end
end
section
open Go (IntKind)
mutual
def below (n:Nat):AV->Prop
 | .ptr id _=>id<n
 | .ao id _ _=>id<n
 | .map id=>id<n
 | .it id=>id<n
 | .fn (.f _) first cap=>qJ n first/\qJ n cap
 | .fn (.y l) first cap=>l<n/\first=[]/\cap=[]
 | .agg cs=>qJ n cs
 | .ae cs=>qJ n cs
 | _=>True
def qJ (n:Nat):List AV->Prop
 | []=>True
 | v::r=>below n v/\qJ n r
end
def qK (n:Nat):Env->Prop
 | []=>True
 | (_,v)::r=>below n v/\qK n r
def C4 (n:Nat):Obj->Prop
 | .cells _ pu _ _ cs=>pu=true\/qJ n cs
 | .mp _ ks vs=>qJ n ks/\qJ n vs
 | .si _ _=>True
 | .lp tm _ _ _ _ _=>qK n tm
def I4 (b n:Nat):Hp->Prop
 | []=>True
 | (id,o)::r=>id<b/\C4 n o/\I4 b n r
mutual
def acQ {f:Nat->Option Nat} {n:Nat} (hf:∀x,x<n->f x=some x):∀{v:AV},below n v->b7 f v=v
 | .int _ _,_ | .bool _,_ | .bQ _ _,_ | .str _,_ | .kQ,_ | .b6 _,_ | .aa,_ | .aw _ _ _,_ | .jb,_ | .km,_ | .jy _ _,_ | .undef,_ | .bn _ _ _ _,_=>rfl
 | .ptr id o,h=>by simp only [b7,hf id h]
 | .ao id o k,h=>by simp only [b7,hf id h]
 | .map id,h=>by simp only [b7,hf id h]
 | .it id,h=>by simp only [b7,hf id h]
 | .fn (.y l) first cap,h=>by
  obtain ⟨h1,rfl,rfl⟩:=h;simp only [b7,hf l h1,eE]
 | .fn (.f _) first cap,h=>by
  simp only [b7,AK hf h.1,AK hf h.2]
 | .agg cs,h=>by simp only [below] at h;simp only [b7,AK hf h]
 | .ae cs,h=>by simp only [below] at h;simp only [b7,AK hf h]
def AK {f:Nat->Option Nat} {n:Nat} (hf:∀x,x<n->f x=some x):∀{vs:List AV},qJ n vs->eE f vs=vs
 | [],_=>rfl
 | v::r,h=>by simp only [eE,acQ hf h.1,AK hf h.2]
end
def Q5 {f:Nat->Option Nat} {n:Nat} (hf:∀x,x<n->f x=some x):∀{tm:Env},qK n tm->fC f tm=tm
 | [],_=>rfl
 | (_,v)::r,h=>by simp only [fC,acQ hf h.1,Q5 hf h.2]
def apm {f:Nat->Option Nat} {n:Nat} (hf:∀x,x<n->f x=some x):∀{o:Obj},C4 n o->iH f o=o
 | .cells _ pu _ _ cs,h=>by
  cases pu with
  | true=>rfl
  | false=>simp only [C4,yI,ybC] at h;simp only [iH,yT,AK hf h]
 | .mp _ ks vs,h=>by simp only [iH,AK hf h.1,AK hf h.2]
 | .si _ _,_=>rfl
 | .lp tm _ _ _ _ _,h=>by simp only [C4] at h;simp only [iH,Q5 hf h]
mutual
def abY {n:Nat}:∀{v:AV},below n v->∀x,x∈refs v->x<n
 | .int _ _,_,x,h | .bool _,_,x,h | .bQ _ _,_,x,h | .str _,_,x,h | .kQ,_,x,h | .b6 _,_,x,h | .aa,_,x,h | .aw _ _ _,_,x,h | .jb,_,x,h | .km,_,x,h | .jy _ _,_,x,h | .undef,_,x,h | .bn _ _ _ _,_,x,h=>by simp [refs] at h
 | .ptr id o,h,x,hx=>by simp only [refs,xC] at hx;subst hx;exact h
 | .ao id o k,h,x,hx=>by simp only [refs,xC] at hx;subst hx;exact h
 | .map id,h,x,hx=>by simp only [refs,xC] at hx;subst hx;exact h
 | .it id,h,x,hx=>by simp only [refs,xC] at hx;subst hx;exact h
 | .fn (.y l) first cap,h,x,hx=>by simp only [refs,xC] at hx;subst hx;exact h.1
 | .fn (.f _) first cap,h,x,hx=>by
  simp only [refs,xZ] at hx;exact hx.elim (AI h.1 x) (AI h.2 x)
 | .agg cs,h,x,hx=>by simp only [below] at h;simp only [refs] at hx;exact AI h x hx
 | .ae cs,h,x,hx=>by simp only [below] at h;simp only [refs] at hx;exact AI h x hx
def AI {n:Nat}:∀{vs:List AV},qJ n vs->∀x,x∈fT vs->x<n
 | [],_,x,h=>by simp [fT] at h
 | v::r,h,x,hx=>by
  simp only [fT,xZ] at hx;exact hx.elim (abY h.1 x) (AI h.2 x)
end
def QT {n:Nat}:∀{tm:Env},qK n tm->∀x,x∈fc tm->x<n
 | [],_,x,h=>by simp [fc] at h
 | (_,v)::r,h,x,hx=>by
  simp only [fc,xZ] at hx;exact hx.elim (abY h.1 x) (QT h.2 x)
def aoE {n:Nat}:∀{o:Obj},C4 n o->∀x,x∈iX o->x<n
 | .cells _ pu _ _ cs,h,x,hx=>by
  cases pu with
  | true=>simp [iX] at hx
  | false=>simp only [C4,yI,ybC] at h;exact AI h x hx
 | .mp _ ks vs,h,x,hx=>by
  simp only [iX,xZ] at hx;exact hx.elim (AI h.1 x) (AI h.2 x)
 | .si _ _,_,x,hx=>by simp [iX] at hx
 | .lp tm _ _ _ _ _,h,x,hx=>by simp only [C4] at h;exact QT h x hx
def kj (B:Nat):List (List AV)->Hp
 | []=>[]
 | cs::r=>(B+r.length,.cells true true true 1 cs)::kj B r
def De (B:Nat):List (List AV)->Hp->Hp
 | [],acc=>acc
 | cs::r,acc=>De (B+1) r ((B,.cells true true true 1 cs)::acc)
def abZ:∀(l:List (List AV)) (B:Nat) (x:List AV) (acc:Hp),De B (l++[x]) acc=(B+l.length,.cells true true true 1 x)::De B l acc
 | [],B,x,acc=>rfl
 | c::l,B,x,acc=>by
  simp only [xk,De,abZ l,yz]
  grind
def acR (B:Nat) (acc:Hp):∀rs:List (List AV),De B rs.reverse acc=kj B rs++acc
 | []=>rfl
 | c::r=>by
  simp only [yaH,abZ,acR B acc r,yas,kj,xk]
def acS {B:Nat} {old:Hp}:∀{rs:List (List AV)} {i:Nat} (h:i<rs.length),au (kj B rs++old) (B+i)=some (.cells true true true 1 (rs.reverse[i]'(by simpa using h)))
 | c::r,i,h=>by
  simp only [kj,xk,yaH];by_cases hi:i=r.length
  ·subst hi;rw [au,wW,yA]
   simp
  ·have aW:i<r.length:=by grind
   rw [au,gF (by omega),yT,acS aW]
   grind
def C5 {a b:Nat} (h:a<b):yQ a b=true:=by simp_all
def I5 {a b:Nat} (h:b<=a):yQ a b=false:=by
 cases hq:yQ a b with
 | false=>rfl
 | true=>have:=yy hq;omega
def QM {B:Nat} {old:Hp}:∀rs:List (List AV),js B (kj B rs++old)=js B old
 | []=>rfl
 | c::r=>by
  simp only [kj,xk];rw [js,I5 (by omega),yT,QM r]
def ab0 {B:Nat} {old:Hp} {f:Nat->Option Nat}:∀rs:List (List AV),mq B f (kj B rs++old)=mq B f old
 | []=>rfl
 | c::r=>by
  simp only [kj,xk];rw [mq,I5 (by omega),yT,ab0 r]
def abq {B n:Nat} {f:Nat->Option Nat} (hf:∀x,x<n->f x=some x):∀{old:Hp},I4 B n old->mq B f old=old
 | [],_=>rfl
 | (id,o)::r,h=>by
  rw [mq,C5 h.1,yA,apm hf h.2.1,abq hf h.2.2]
def apo {B s x:Nat} (h:B+s<=x):jz x (xW B s)=false:=by
 induction s generalizing B with
 | zero=>rfl
 | succ s ih=>rw [vN,jz,gF (by omega),yT,ih (by omega)]
def Q6 {hp:Hp} {B R:Nat} (iK:∀i,i<R->∃rw ex sz cs,au hp (B+i)=some (.cells rw true ex sz cs)):
  ∀(W:List Nat) (bq s:Nat),W.length<bq->s<=R->W.filter (fun x=> !yQ x B)=xW (B+s) (R-s)->reach hp B bq W (xW B s)=xW B R
 | [],0,s,hf,_,_=>by simp at hf
 | [],bq+1,s,hf,hs,h=>by
  have:R-s=0:=by
   grind
  rw [reach,show R=s by omega]
 | id::W,0,s,hf,_,_=>by simp at hf
 | id::W,bq+1,s,hf,hs,h=>by
  have BR:W.length<bq:=by simp_all
  rw [reach];by_cases hid:id<B
  ·rw [C5 hid,Bool.true_or,yA];rw [yaR,C5 hid] at h;exact Q6 iK W bq s BR hs (by simpa using h)
  ·rw [yaR,I5 (by omega)] at h;have hRs:R-s=(R-s-1)+1:=by
    have:=congrArg List.length h
    grind
   rw [hRs,vN] at h;injection h with h1 h2
   subst h1;rw [I5 (by omega),Bool.false_or,apo (yu _),yT];obtain ⟨rw,ex,sz,cs,ho⟩:=iK s (by omega);simp only [ho,iX,yA,xB];have e:xW B s++[B+s]=xW B (s+1):=by rw [List.range'_concat];simp
   rw [e];exact Q6 iK W bq (s+1) BR (by omega) (by rw [h2,show R-s-1=R-(s+1) by omega,show B+s+1=B+(s+1) by omega])
def apq {B s i k:Nat} (h:i<s):ef (B+i) (xW B s) k=some (k+i):=by
 induction s generalizing B i k with
 | zero=>omega
 | succ s ih=>
  rw [vN,ef];by_cases hi:i=0
  ·simp_all
  ·rw [gF (by omega),yT]
   have:=ih (B:=B+1) (i:=i-1) (k:=k+1) (by omega)
   grind
def aoF {B R x:Nat} (h:x<B+R):kL B (xW B R) x=some x:=by
 unfold kL;by_cases hx:x<B
 ·rw [C5 hx,yA]
 ·rw [I5 (by omega),yT]
  have:=apq (B:=B) (s:=R) (i:=x-B) (k:=B) (by omega)
  grind
def ab1 {hp:Hp} {f:Nat->Option Nat}:∀(ro:List (List AV)) (B:Nat) (acc:Hp),(∀i (h:i<ro.length),au hp (B+i)=some (.cells true true true 1 ro[i]))->gW hp f (xW B ro.length) B acc=De B ro acc
 | [],B,acc,_=>rfl
 | c::r,B,acc,h=>by
  have h0:=h 0 (by simp);simp only [yY,List.getElem_cons_zero] at h0;rw [yz,vN,gW];simp only [h0,iH,yA,De]
  exact ab1 r (B+1) _ (fun i hi=>by
   have:=h (i+1) (by simpa using hi)
   rw [show B+1+i=B+(i+1) by omega,this]
   simp)
def aob {live:List Nat} {tm:Env} {B ct:Nat} {old:Hp} {rs:List (List AV)} (ht:qK B (cg tm live)) (ho:I4 B (B+rs.length) old) (hl:(fc (cg tm live)).length+(js B old).length<100000)
  (hr:(js B old).filter (fun x=> !yQ x B)=xW B rs.length):aI live ⟨tm,kj B rs++old,ct,B⟩=⟨cg tm live,kj B rs++old,B+rs.length,B⟩:=by
 have iK:∀i (h:i<rs.length),au (kj B rs++old) (B+i)=some (.cells true true true 1 (rs.reverse[i]'(by simpa using h))):=fun i h=>acS h
 have ai2:reach (kj B rs++old) B 100000 (fc (cg tm live)++js B (kj B rs++old)) []=xW B rs.length:=by
  have:=Q6 (hp:=kj B rs++old) (B:=B) (R:=rs.length) (fun i hi=>⟨_,_,_,_,iK i hi⟩) (fc (cg tm live)++js B (kj B rs++old)) 100000 0 (by rw [QM,List.length_append];exact hl) (uf _) (by
   rw [List.filter_append,QM,hr,tW.2 (fun x hx=>by
    have:=QT ht x hx
    simp [C5 this])]
   simp)
  grind
 have hid:∀x,x<B+rs.length->kL B (xW B rs.length) x=some x:=fun x hx=>aoF hx
 have hn:=ab1 (hp:=kj B rs++old) (f:=kL B (xW B rs.length)) rs.reverse B old (fun i hi=>iK i (by simpa using hi));rw [yas] at hn;simp only [aI,ai2,ab0,abq hid ho,hn,acR,List.length_range']
 rw [Q5 (n:=B) (fun x hx=>hid x (by omega)) ht]
def ab2 {B b n:Nat} (hb:b<=B):∀{H:Hp},I4 b n H->∀x,x∈js B H->x<n
 | [],_,x,hx=>by simp [js] at hx
 | (id,o)::r,h,x,hx=>by
  rw [js,C5 (by have:=h.1;omega),yA,xZ] at hx;exact hx.elim (aoE h.2.1 x) (ab2 hb h.2.2 x)
def abr {live:List Nat} {tm:Env} {B ct:Nat} {old:Hp} (ht:qK B (cg tm live)) (ho:I4 B B old) (hl:(fc (cg tm live)).length+(js B old).length<100000):
  aI live ⟨tm,old,ct,B⟩=⟨cg tm live,old,B,B⟩:=by
 have:=aob (rs:=[]) (ct:=ct) ht (by simpa using ho) hl (by
  rw [tW.2 (fun x hx=>by have:=ab2 (yu B) ho x hx;simp [C5 this])]
  rfl)
 simpa [kj] using this
end
section
open Go (IntKind)
section
variable {P:aK} {L:Lib}
def M1 {n:Nat} {F:aV} (h:Has P L n F) {hp:Hp} {ct:Nat} {av:List AV} {ex:Ex} {s:St} {v:AV} (hD:D P L F.body ⟨dX 0 av,hp,ct,ct⟩=some (ex,s)) (he:ex= .normal\/ex= .ret) (hr:iU s F.fO=some v):
  il P L (D P L) hp ct n av=some (v,s.hp,s.ct):=by
 simp only [il,h.heap,h.code,hD]
 grind
def adV (z:AV):∀n,(yj n [z]).flatten=yj n z
 | 0=>rfl
 | n+1=>by rw [wo,List.flatten_cons,adV z n,wo];rfl
mutual
def qB {n:Nat}:∀{v:AV},bg v=true->below n v
 | .int _ _,_ | .bool _,_ | .bQ _ _,_ | .str _,_ | .kQ,_ | .b6 _,_ | .aa,_ | .aw _ _ _,_ | .jb,_ | .km,_ | .jy _ _,_ | .undef,_=>trivial
 | .bn _ _ _ _,_=>trivial
 | .ptr _ _,h | .ao _ _ _,h | .map _,h | .it _,h=>by simp [bg] at h
 | .fn (.y _) _ _,h=>by simp [bg] at h
 | .fn (.f _) _ _,h=>by
  simp only [bg,yg] at h;exact ⟨HQ h.1,HQ h.2⟩
 | .agg cs,h=>by simp only [bg] at h;simp only [below];exact HQ h
 | .ae cs,h=>by simp only [bg] at h;simp only [below];exact HQ h
def HQ {n:Nat}:∀{vs:List AV},aG vs=true->qJ n vs
 | [],_=>trivial
 | _::_,h=>by
  simp only [aG,yg] at h;exact ⟨qB h.1,HQ h.2⟩
end
end
end
section
open Go (IntKind)
section
variable {pre x post:List Nat} {i:Nat}
def po:(pre++x++post).length=pre.length+x.length+post.length:=by grind
def CF (h:i<x.length):(pre++x++post).getD (pre.length+i) 0=x.getD i 0:=by grind
def M3 (a:Nat) (h:i<x.length):(pre++x++post).set (pre.length+i) a=pre++x.set i a++post:=by simp_all
end
def mo (n:Nat) (k:y7) (a:Int):below n (.int k a)=True:=rfl
def mS (n id o k:Nat):below n (.ao id o k)=(id<n):=rfl
def mg (n:Nat):qK n []=True:=rfl
def mf (n i:Nat) (v:AV) (r:Env):qK n ((i,v)::r)=(below n v/\qK n r):=rfl
def qH {live:List Nat} {tm:Env} {ct:Nat} {a b:List AV} (ht:qK 2 (cg tm live)) (hl:(fc (cg tm live)).length<100000):
  aI live ⟨tm,[(1,.cells true true true 1 a),(0,.cells true true true 1 b)],ct,2⟩=⟨cg tm live,[(1,.cells true true true 1 a),(0,.cells true true true 1 b)],2,2⟩:=
 abr ht ⟨by omega,.inl rfl,by omega,.inl rfl,trivial⟩ (by
  have:js 2 [(1,Obj.cells true true true 1 a),(0,Obj.cells true true true 1 b)]=[]:=rfl
  rw [this,yK,yY];exact hl)
section
variable {P:aK} {L:Lib}
def apr {x s c:Nat} (hs:s<64) (hx:x<18446744073709551616) (hc:c<2^s):
  c|||(x*2^s%18446744073709551616)<18446744073709551616/\c<18446744073709551616/\x/2^(64-s)<2^s/\(c|||(x*2^s%18446744073709551616))+18446744073709551616*(x/2^(64-s))=x*2^s+c:=by
 have e:18446744073709551616=2^(64-s)*2^s:=by rw [<-wS,show 64-s+s=64 by omega]
 have h1:x*2^s%18446744073709551616=(x%2^(64-s))*2^s:=by rw [e,vS]
 have h2:x/2^(64-s)<2^s:=by
  refine (wg (wL _)).2 ?_
  grind
 have h3:c|||(x*2^s%18446744073709551616)=(x%2^(64-s))*2^s+c:=by rw [h1,ybP,S7 hc]
 have h4:(x%2^(64-s))*2^s+c<18446744073709551616:=by
  have:=yV (2^s) (show x%2^(64-s)+1<=2^(64-s) from xF _ (wL _))
  grind
 have h5:=tA x (2^(64-s))
 grind
def ayK {v:AV} {w:List Nat} (hv:bV v w) (hw:lo 18446744073709551616 w) (lw:w.length<=99999999999) {s n:Nat} (hs:s<64) (hn:n=w.length+1):
  ∀k st,(∃(i:Nat) (out:List Nat),aI [1,5,12,13,14] st=⟨[(1,ab s),(5,.ao 0 0 n),(12,v),(13,ab w.length),(14,ab i)],[(0,.cells true true true 1 (out.map uc))],1,0⟩/\i+k=w.length/\out.length=n/\lo 18446744073709551616 out/\bv 18446744073709551616 out=bv 18446744073709551616 (w.take i)*2^s/\out.getD i 0<2^s/\(∀m,i<m->out.getD m 0=0))->
   ∃ex st',D P L (.loop [1,5,12,13,14] EN) st=some (ex,st')/\∃tm out,st'=⟨tm,[(0,.cells true true true 1 (out.map uc))],1,0⟩/\ex= .exit 0/\ai tm 5= .ao 0 0 n/\out.length=n/\lo 18446744073709551616 out/\bv 18446744073709551616 out=bv 18446744073709551616 w*2^s:=by
 intro dq sq;generalize bk:aI [1,5,12,13,14] sq=s0;revert bk s0 sq dq;apply du;rintro k st ⟨i,out,rfl,hk,hlen,bh,aS,hc,gE⟩;by_cases hi:i<w.length
 ·left
  have gx:=gV (show 0<18446744073709551616 by decide) hw i;have ex:=hv.aY hi;have ec:=zL (l:=out) (o:=i) (by omega);have a7:=nX (b:=18446744073709551616) (l:=out) (i:=i) (x:=out.getD i 0|||(w.getD i 0*2^s%18446744073709551616)) (by omega);have hz:out.getD (i+1) 0=0:=gE _ (by omega);have eS:=ju (b:=18446744073709551616) (l:=w) i;generalize out.getD i 0=c at*
  generalize w.getD i 0=x at*
  obtain ⟨s1,s2,s3,s4⟩:=apr hs gx hc;have o1:=Kg .i64 x (s:=s) (by omega);have o2:=Z7 s2 (xF (x*2^s) (by decide));have o3:binOp .sub (.int .i64 64) (ab s)=some (ab (64-s:Nat)):=by
   rw [MW,wrap64 (by omega) (by omega)];congr 2;omega
  have o4:=Kh .i64 x (s:=64-s) (by omega);generalize lf:c|||(x*2^s%18446744073709551616)=c' at*
  by_cases h0:0<s
  ·have NN:=nX (b:=18446744073709551616) (l:=out.set i c') (i:=i+1) (x:=x/2^(64-s)) (by simp;omega);rw [pn (by omega),hz,xJ,yY] at NN;have aB3:x/2^(64-s)<18446744073709551616:=wR (vH _ _) gx;generalize x/2^(64-s)=y at*
   simp only [go_sem,ya,yf,EN,show (i:Int)<w.length by omega,ex,bN 0 0 (show i<n by omega),ye,ec,o1,o2,kG (l:=out) (o:=i) (by omega),show (0:Int)<(s:Int) by omega,show (i:Int)+1=((i+1:Nat):Int) from rfl,wrapN (n:=i+1) (by omega),o3,o4,bN 0 0 (show i+1<n by omega),kG (l:=out.set i c') (o:=i+1) (by simp;omega)];refine ⟨_,k-1,rfl,by omega,i+1,(out.set i c').set (i+1) y,by simp only [go_sem,ya,yb,ax,aD hv.pu,aE _ hv.pu]<;>rfl,by omega,by simp [hlen],ml (ml bh s1) aB3,?_,by rw [ao2 (by simp;omega)];exact s3,fun m hm=>by rw [pn (by omega),pn (by omega)];exact gE m (by omega)⟩
   rw [eS,wJ,NN,<-aS,xd,xo,xo (18446744073709551616^i)];have e:=congrArg (fun t=>18446744073709551616^i*t) s4;simp only [xI] at e;generalize 18446744073709551616^i*(18446744073709551616*y)=p1 at*
   generalize 18446744073709551616^i*(x*2^s)=p2 at*
   generalize 18446744073709551616^i*c'=p3 at*
   omega
  ·have Aj:s=0:=by omega
   subst Aj;have kX:c=0:=by simpa using hc
   have Aw:x/2^(64-0)=0:=wT gx;rw [Aw,xJ,yY,ybF,yf] at s4
   simp only [go_sem,ya,yf,EN,show (i:Int)<w.length by omega,ex,bN 0 0 (show i<n by omega),ye,ec,o1,o2,kG (l:=out) (o:=i) (by omega),show ¬(0:Int)<((0:Nat):Int) by omega,show (i:Int)+1=((i+1:Nat):Int) from rfl,wrapN (n:=i+1) (by omega)];refine ⟨_,k-1,rfl,by omega,i+1,out.set i c',by simp only [go_sem,ya,yb,ax,aD hv.pu,aE _ hv.pu]<;>rfl,by omega,by simp [hlen],ml bh s1,?_,by rw [pn (by omega),hz];exact wL _,fun m hm=>by rw [pn (by omega)];exact gE m (by omega)⟩
   rw [ybF,yf] at aS ⊢;rw [eS,<-aS];rw [kX,xJ,yY] at a7;rw [a7,s4,kX,yY]
 ·right
  have:i=w.length:=by omega
  subst this;rw [xD] at aS;simp only [go_sem,ya,EN,show ¬(w.length:Int)<w.length by omega];exact ⟨_,_,rfl,by simp,_,out,rfl,rfl,by simp only [go_sem,ya],hlen,bh,aS⟩
def ak2 (h:Has P L 168 Od) {v:AV} {w:List Nat} (hv:bV v w) (hw:lo 18446744073709551616 w) (lw:w.length<=99999999999) {s:Nat} (hs:s<64):
  ∃out,ak P L 168 [v,ab s] (.bn true 1 (w.length+1) (out.map uc))/\out.length=w.length+1/\lo 18446744073709551616 out/\bv 18446744073709551616 out=bv 18446744073709551616 w*2^s:=by
 obtain ⟨n,hn⟩:∃n,n=w.length+1:=⟨_,rfl⟩;unfold ak;rw [aH h]
 simp only [go_sem,ya,yb,Od,hv.len,wrapN (n:=n) (by omega),show (w.length:Int)+1=((w.length+1:Nat):Int) from rfl,<-hn,Dw (n:=n) _ (by omega)];generalize hq:D P L (.loop [1,5,12,13,14] EN) _=q;obtain ⟨ex,st,rfl,tm,o,rfl,rfl,t5,hlen,bh,aS⟩:=bJ hq (ayK (P:=P) (L:=L) hv hw lw hs hn w.length)
  ⟨0,yj n 0,by simp only [go_sem,ya,yb,ax,aD hv.pu,aE _ hv.pu]<;>rfl,by omega,by simp,E2 (by decide) n,by rw [E3];simp [bv],by rw [CE];exact wL _,fun m _=>CE n m⟩
 refine ⟨o,?_,hlen,bh,aS⟩;simp only [go_sem,yb,ax,t5];exact Cw (fR _ _ _) (by simp [hlen]) (by decide)
end
end
section
open Go (IntKind)
abbrev H2 (a b:List Nat):Hp:=[(1,.cells true true true 1 (a.map uc)),(0,.cells true true true 1 (b.map uc))]
structure hX (x vs:List Nat) (n v1 v2 u0 u1 u2:Nat):Prop where
 n2:2<=n
 nb:n<=99999999999
 lx:x.length=n+1
 lv:vs.length=n
 gx:lo 18446744073709551616 x
 gv:lo 18446744073709551616 vs
 eZ:vs.getD (n-1) 0=v1
 dH:vs.getD (n-2) 0=v2
 h0:x.getD n 0=u0
 h1:x.getD (n-1) 0=u1
 h2:x.getD (n-2) 0=u2
 pos:0<v1
 lt:bv 18446744073709551616 x<18446744073709551616*bv 18446744073709551616 vs
def aAJ (b p a v1 v2:Nat):a+p*v2+p*b*v1=(v1*b+v2)*p+a:=by grind
def aAK (b p a v0 v1 v2:Nat):a+p*v2+p*b*v1+p*b*b*v0=((v0*b+v1)*b+v2)*p+a:=by grind
section
variable {x vs:List Nat} {n v1 v2 u0 u1 u2:Nat}
def hX.Lb (h:hX x vs n v1 v2 u0 u1 u2):v1<18446744073709551616:=h.eZ▸gV (by decide) h.gv _
def hX.DY (h:hX x vs n v1 v2 u0 u1 u2):v2<18446744073709551616:=h.dH▸gV (by decide) h.gv _
def hX.Lc (h:hX x vs n v1 v2 u0 u1 u2):u1<18446744073709551616:=h.h1▸gV (by decide) h.gx _
def hX.Ld (h:hX x vs n v1 v2 u0 u1 u2):u2<18446744073709551616:=h.h2▸gV (by decide) h.gx _
def hX.parts (h:hX x vs n v1 v2 u0 u1 u2):∃p vr ur,bv 18446744073709551616 vs=(v1*18446744073709551616+v2)*p+vr/\vr<p/\bv 18446744073709551616 x=((u0*18446744073709551616+u1)*18446744073709551616+u2)*p+ur/\ur<p:=by
 obtain ⟨m,hm⟩:∃m,n=m+2:=⟨n-2,by have:=h.n2;omega⟩;subst hm;have e1:=ju (b:=18446744073709551616) (l:=vs) (m+1);have e2:=ju (b:=18446744073709551616) (l:=vs) m;have f0:=ju (b:=18446744073709551616) (l:=x) (m+2);have f1:=ju (b:=18446744073709551616) (l:=x) (m+1);have f2:=ju (b:=18446744073709551616) (l:=x) m;have eZ:vs.getD (m+1) 0=v1:=h.eZ;have dH:vs.getD m 0=v2:=h.dH;have h0:x.getD (m+2) 0=u0:=h.h0;have h1:x.getD (m+1) 0=u1:=h.h1;have h2:x.getD m 0=u2:=h.h2
 rw [yN (by have:=h.lv;omega),eZ,e2,dH] at e1
 rw [yN (by have:=h.lx;omega),h0,f1,h1,f2,h2] at f0;have g1:=mr (A0 h.gv m)
 rw [yE,xA (by have:=h.lv;omega)] at g1;have g2:=mr (A0 h.gx m)
 rw [yE,xA (by have:=h.lx;omega)] at g2;refine ⟨18446744073709551616^m,_,_,?_,g1,?_,g2⟩
 ·grind
 ·grind
def hX.down (h:hX x vs n v1 v2 u0 u1 u2) {t r:Nat} (ht:t*v1+r=u0*18446744073709551616+u1) (hr:r*18446744073709551616+u2<t*v2):bv 18446744073709551616 x/bv 18446744073709551616 vs<=t-1:=by
 obtain ⟨p,vr,ur,h1,h2,h3,h4⟩:=h.parts;exact abS h1 h3 h4 ht hr
def hX.stop (h:hX x vs n v1 v2 u0 u1 u2) {t r:Nat} (kF:t<18446744073709551616) (ht:t*v1+r=u0*18446744073709551616+u1) (hr:18446744073709551616<=r\/t*v2<=r*18446744073709551616+u2):t<=bv 18446744073709551616 x/bv 18446744073709551616 vs+1:=by
 obtain ⟨p,vr,ur,h1,h2,h3,h4⟩:=h.parts;exact acI (by decide) h1 h2 h3 h.pos h.DY kF ht hr
def hX.first (h:hX x vs n v1 v2 u0 u1 u2):bv 18446744073709551616 x/bv 18446744073709551616 vs<=(u0*18446744073709551616+u1)/v1:=by
 obtain ⟨p,vr,ur,h1,h2,h3,h4⟩:=h.parts;exact QS h1 h3 h4 h.Ld h.pos
def hX.top (h:hX x vs n v1 v2 u0 u1 u2):u0<=v1:=by
 obtain ⟨p,vr,ur,h1,h2,h3,h4⟩:=h.parts;exact acJ h1 h3 h2 h.DY h.lt
def hX.digit (h:hX x vs n v1 v2 u0 u1 u2):bv 18446744073709551616 x/bv 18446744073709551616 vs<18446744073709551616:=by
 refine (wg ?_).2 h.lt;rcases xp (bv 18446744073709551616 vs) with h0 | h0
 ·have:=h.lt;rw [h0] at this;simp at this
 ·exact h0
end
section
variable {P:aK} {L:Lib}
def aiH (mA:L.pure 143=some rT) (gN:L.pure 171=some nV) {w:AV} {x vs pre post qs:List Nat} (hw:bV w vs) {n v1 v2 u0 u1 u2:Nat} (hl:hX x vs n v1 v2 u0 u1 u2):
  ∀k s,(∃q r:Nat,aI [0,1,5,6,7,8] s=⟨[(0,.ao 0 pre.length (n+1)),(1,w),(5,ab n),(6,uc q),(7,uc (r%18446744073709551616)),(8,uc (r/18446744073709551616))],H2 qs (pre++x++post),2,2⟩/\q*v1+r=u0*18446744073709551616+u1/\r<2*18446744073709551616/\q<18446744073709551616/\bv 18446744073709551616 x/bv 18446744073709551616 vs<=q/\q=k)->
   ∃ex s',D P L (.loop [0,1,5,6,7,8] zA) s=some (ex,s')/\∃tm q,s'=⟨tm,H2 qs (pre++x++post),2,2⟩/\ex= .exit 0/\ai tm 0= .ao 0 pre.length (n+1)/\ai tm 1=w/\ai tm 5=ab n/\ai tm 6=uc q/\q<18446744073709551616/\bv 18446744073709551616 x/bv 18446744073709551616 vs<=q/\q<=bv 18446744073709551616 x/bv 18446744073709551616 vs+1:=by
 intro dq sq;generalize bk:aI [0,1,5,6,7,8] sq=s0;revert bk s0 sq dq;apply du;rintro k s ⟨q,r,rfl,hq,hr,oM,hQ,rfl⟩;have dQ:=hl.n2;have pX:=hl.nb;by_cases fa:r<18446744073709551616
 ·have GD:r%18446744073709551616=r:=yW fa;have B3:r/18446744073709551616=0:=wT fa;rw [GD,B3];have F2:=hl.Lb;have YG:=hl.DY;have ak3:=hl.Ld;have qc:=hw.aY (i:=n-2) (by have:=hl.lv;omega);have e9:=hw.aY (i:=n-1) (by have:=hl.lv;omega);rw [hl.dH] at qc;rw [hl.eZ] at e9;have sU:=zL (l:=pre++x++post) (o:=pre.length+(n-2)) (by rw [po];have:=hl.lx;omega)
  rw [CF (by have:=hl.lx;omega),hl.h2] at sU;have f1:=Ns (P:=P) (f:=D P L) mA oM YG;have f2:=C3 (P:=P) (f:=D P L) gN (x:=r) (y:=v1) (c:=0) fa F2 (by omega);rw [show (uc 0)=AV.int .u64 0 from rfl] at f2;have fP:=xU (q*v2) 18446744073709551616;have bh:=xF (q*v2) (show 0<18446744073709551616 by decide);obtain ⟨H,hH⟩:∃H,H=q*v2/18446744073709551616:=⟨_,rfl⟩;obtain ⟨G,hG⟩:∃G,G=q*v2%18446744073709551616:=⟨_,rfl⟩;rw [<-hH,<-hG] at f1 fP;rw [<-hG] at bh;have Ax:(n:Int)-2=((n-2:Nat):Int):=by omega
  have qd:(n:Int)-1=((n-1:Nat):Int):=by omega
  by_cases c1:H<r
  ·right
   simp only [go_sem,ya,zA,H2,show ((0:Nat):Int)=0 from rfl,Ax,wrapN (n:=n-2) (by omega),qc,f1,show (H:Int)<(r:Int) by omega];exact ⟨_,_,rfl,by simp,_,q,rfl,rfl,by simp only [go_sem,ya],by simp only [go_sem,ya],by simp only [go_sem,ya],by simp only [go_sem,ya],oM,hQ,hl.stop oM hq (.inr (by omega))⟩
  ·by_cases c2:H=r/\G<=u2
   ·right
    obtain ⟨c2,c3⟩:=c2
    simp only [go_sem,ya,zA,H2,show ((0:Nat):Int)=0 from rfl,Ax,wrapN (n:=n-2) (by omega),qc,f1,show (H:Int)=(r:Int) by omega];simp only [show ¬(r:Int)<(r:Int) by omega,yt]
    simp only [go_sem,ya,yf,Ax,wrapN (n:=n-2) (by omega),bN 0 pre.length (show n-2<n+1 by omega),sU,show (G:Int)<=(u2:Int) by omega];exact ⟨_,_,rfl,by simp,_,q,rfl,rfl,by simp only [go_sem,ya],by simp only [go_sem,ya],by simp only [go_sem,ya],by simp only [go_sem,ya],oM,hQ,hl.stop oM hq (.inr (by omega))⟩
   ·left
    have Gp:r*18446744073709551616+u2<q*v2:=by omega
    have bk:0<q:=by
     rcases xp q with h0 | h0
     ·subst h0;omega
     ·exact h0
    have e3:binOp .sub (uc q) (.int .u64 1)=some (uc (q-1)):=Dx (b:=1) (by omega) (by omega);have h1:(q-1)*v1+(r+v1)=u0*18446744073709551616+u1:=by
     obtain ⟨p,rfl⟩:∃p,q=p+1:=⟨q-1,by omega⟩;rw [wJ,Nat.one_mul] at hq;rw [tH];omega
    have DZ:=hl.down hq Gp;rw [yY] at f2;by_cases c3:H=r
    ·have c4:¬G<=u2:=fun h=>c2 ⟨c3,h⟩
     subst c3
     simp only [go_sem,ya,xt,yf,zA,H2,show ((0:Nat):Int)=0 from rfl,Ax,qd,wrapN (n:=n-2) (by omega),wrapN (n:=n-1) (by omega),qc,e9,f1,f2,show ¬(H:Int)<(H:Int) by omega,bN 0 pre.length (show n-2<n+1 by omega),sU,show ¬(G:Int)<=(u2:Int) by omega,e3];refine ⟨_,q-1,rfl,by omega,q-1,H+v1,?_,h1,by omega,by omega,DZ,rfl⟩;rw [qH (by simp only [go_sem,ya,yD,mo,mS,mg,mf,qB hw.pu,vz]) (by simp only [go_sem,ya,yb,yD,aD hw.pu])];simp only [go_sem,ya]
    ·simp only [go_sem,ya,xt,zA,H2,show ((0:Nat):Int)=0 from rfl,Ax,qd,wrapN (n:=n-2) (by omega),wrapN (n:=n-1) (by omega),qc,e9,f1,f2,show ¬(H:Int)<(r:Int) by omega,show ¬(H:Int)=(r:Int) by omega,e3];refine ⟨_,q-1,rfl,by omega,q-1,r+v1,?_,h1,by omega,by omega,DZ,rfl⟩;rw [qH (by simp only [go_sem,ya,yD,mo,mS,mg,mf,qB hw.pu,vz]) (by simp only [go_sem,ya,yb,yD,aD hw.pu])];simp only [go_sem,ya]
 ·right
  have B3:r/18446744073709551616=1:=by omega
  rw [B3];simp only [go_sem,ya,zA,H2,show ((1:Nat):Int)=1 from rfl,Int.reduceEq];exact ⟨_,_,rfl,by simp,_,q,rfl,rfl,by simp only [go_sem,ya],by simp only [go_sem,ya],by simp only [go_sem,ya],by simp only [go_sem,ya],oM,hQ,hl.stop oM hq (.inl (by omega))⟩
end
end
section
open Go (IntKind)
def aqS {b p x y z nG c bo Ay ca q v X Y:Nat} (h1:q*v+c=b*ca+nG) (h2:z+nG+bo=x+b*Ay) (h3:Y+q*X=y+p*(c+bo)) (W:Nat) (hW:W+p*x=Y+p*z):
  W+q*(X+p*v)=y+p*b*(ca+Ay):=by grind
def aqT {q v c:Nat} (hq:q<18446744073709551616) (hv:v<18446744073709551616) (hc:c<18446744073709551616):
  q*v+c=18446744073709551616*(q*v/18446744073709551616+(q*v%18446744073709551616+c+0)/18446744073709551616)+(q*v%18446744073709551616+c+0)%18446744073709551616/\
  q*v/18446744073709551616+(q*v%18446744073709551616+c+0)/18446744073709551616<18446744073709551616:=by
 have h:=vj (show q<=18446744073709551615 by omega) (show v<=18446744073709551615 by omega)
 grind
section
variable {P:aK} {L:Lib}
def ayL (mA:L.pure 143=some rT) (gN:L.pure 171=some nV) (ss:L.pure 173=some A3) {w:AV} {x vs pre post qs:List Nat} (hw:bV w vs) {n:Nat} (pX:n<=99999999999) (lv:vs.length=n) (gv:lo 18446744073709551616 vs) {q:Nat} (hq:q<18446744073709551616):
  ∀k s,(∃(i c bo:Nat) (y:List Nat),aI [0,1,5,6,11,12,104,105] s=⟨[(0,.ao 0 pre.length (n+1)),(1,w),(5,ab n),(6,uc q),(11,uc bo),(12,uc c),(104,ab n),(105,ab i)],H2 qs (pre++y++post),2,2⟩/\i+k=n/\y.length=n+1/\lo 18446744073709551616 y/\c<18446744073709551616/\bo<=1/\
    bv 18446744073709551616 y+q*bv 18446744073709551616 (vs.take i)=bv 18446744073709551616 x+18446744073709551616^i*(c+bo))->
   ∃ex s',D P L (.loop [0,1,5,6,11,12,104,105] IN) s=some (ex,s')/\∃tm c bo y,s'=⟨tm,H2 qs (pre++y++post),2,2⟩/\ex= .exit 2/\ai tm 0= .ao 0 pre.length (n+1)/\ai tm 1=w/\ai tm 5=ab n/\ai tm 6=uc q/\ai tm 11=uc bo/\ai tm 12=uc c/\y.length=n+1/\lo 18446744073709551616 y/\c<18446744073709551616/\bo<=1/\
    bv 18446744073709551616 y+q*bv 18446744073709551616 vs=bv 18446744073709551616 x+18446744073709551616^n*(c+bo):=by
 intro dq sq;generalize bk:aI [0,1,5,6,11,12,104,105] sq=s0;revert bk s0 sq dq;apply du;rintro k s ⟨i,c,bo,y,rfl,hk,ly,gy,hc,jm,aS⟩;by_cases hi:i<n
 ·left
  have dW:(0:Nat)<18446744073709551616:=by decide
  have rm:=gV dW gv i;have qg:=gV dW gy i;have ev:=hw.aY (i:=i) (by omega);have ey:=zL (l:=pre++y++post) (o:=pre.length+i) (by rw [po];omega);rw [CF (by omega)] at ey;have eS:=ju (b:=18446744073709551616) (l:=vs) i;obtain ⟨a,ha⟩:∃a,a=vs.getD i 0:=⟨_,rfl⟩;obtain ⟨d,hd⟩:∃d,d=y.getD i 0:=⟨_,rfl⟩;rw [<-ha] at rm ev eS;rw [<-hd] at qg ey;obtain ⟨m1,m2⟩:=aqT hq rm hc;have f1:=Ns (P:=P) (f:=D P L) mA hq rm;have f2:=C3 (P:=P) (f:=D P L) gN (x:=q*a%18446744073709551616) (y:=c) (c:=0) (xF _ dW) hc (by omega);obtain ⟨nG,ak4⟩:∃t,t=(q*a%18446744073709551616+c+0)%18446744073709551616:=⟨_,rfl⟩;obtain ⟨c1,ew⟩:∃t,t=(q*a%18446744073709551616+c+0)/18446744073709551616:=⟨_,rfl⟩;have ak5:nG<18446744073709551616:=by rw [ak4];exact xF _ dW
  rw [<-ak4,<-ew] at f2 m1;rw [<-ew] at m2;obtain ⟨h1,ia⟩:∃t,t=q*a/18446744073709551616:=⟨_,rfl⟩;rw [<-ia] at f1 m1 m2;rw [show (uc 0)=AV.int .u64 0 from rfl] at f2;have f3:=S6 (P:=P) (f:=D P L) ss qg ak5 jm;have kH:=R4 qg ak5 jm;obtain ⟨z,hz⟩:∃t,t=(d+18446744073709551616*2-nG-bo)%18446744073709551616:=⟨_,rfl⟩;obtain ⟨b',cw⟩:∃t,t=(if nG+bo<=d then 0 else 1):=⟨_,rfl⟩;have kW:b'<=1:=by rw [cw];split<;>omega
  have GB:z<18446744073709551616:=by rw [hz];exact xF _ dW
  rw [<-hz,<-cw] at f3 kH;have f4:binOp .add (uc h1) (uc c1)=some (uc (h1+c1)):=by
   rw [Bk,yW m2]
  have a7:=nX (b:=18446744073709551616) (l:=y) (i:=i) (x:=z) (by omega);rw [<-hd] at a7;have aO:=fun (hp:Hp) (ct:Nat)=>kG (hp:=hp) (ct:=ct) (id:=0) (v:=z) (ex:=true) (l:=pre++y++post) (o:=pre.length+i) (by rw [po];omega)
  have ol:=M3 (pre:=pre) (x:=y) (post:=post) (i:=i) z (by omega);simp only [go_sem,ya,yf,IN,H2,show (i:Int)<(n:Int) by omega,ev,f1,f2,f4,bN 0 pre.length (show i<n+1 by omega),ey,f3,aO,ol];refine ⟨_,k-1,rfl,by omega,i+1,h1+c1,b',y.set i z,?_,by omega,by simp [ly],ml gy GB,m2,kW,?_⟩
  ·rw [qH (by simp only [go_sem,ya,yD,mo,mS,mg,mf,qB hw.pu,vz]) (by simp only [go_sem,ya,yb,yD,aD hw.pu])];rw [wrap64 (by omega) (by omega)];simp only [go_sem,ya]<;>rfl
  ·rw [eS,xd];exact aqS m1 kH aS _ a7
 ·right
  have:i=n:=by omega
  subst this;rw [yN (by omega)] at aS;simp only [go_sem,ya,IN,H2,show ¬(i:Int)<(i:Int) by omega];exact ⟨_,_,rfl,by simp,_,c,bo,y,rfl,rfl,by simp only [go_sem,ya],by simp only [go_sem,ya],by simp only [go_sem,ya],by simp only [go_sem,ya],by simp only [go_sem,ya],by simp only [go_sem,ya],ly,gy,hc,jm,aS⟩
def ayM (gN:L.pure 171=some nV) {w:AV} {y0 vs pre post qs:List Nat} (hw:bV w vs) {n:Nat} (pX:n<=99999999999) (lv:vs.length=n) (gv:lo 18446744073709551616 vs) {q:Nat}:
  ∀k s,(∃(i c:Nat) (y:List Nat),aI [0,1,5,6,17,156,157] s=⟨[(0,.ao 0 pre.length (n+1)),(1,w),(5,ab n),(6,uc q),(17,uc c),(156,ab n),(157,ab i)],H2 qs (pre++y++post),2,2⟩/\i+k=n/\y.length=n+1/\lo 18446744073709551616 y/\c<=1/\
    bv 18446744073709551616 y+18446744073709551616^i*c=bv 18446744073709551616 y0+bv 18446744073709551616 (vs.take i))->
   ∃ex s',D P L (.loop [0,1,5,6,17,156,157] IP) s=some (ex,s')/\∃tm c y,s'=⟨tm,H2 qs (pre++y++post),2,2⟩/\ex= .exit 4/\ai tm 0= .ao 0 pre.length (n+1)/\ai tm 5=ab n/\ai tm 6=uc q/\ai tm 17=uc c/\y.length=n+1/\lo 18446744073709551616 y/\c<=1/\
    bv 18446744073709551616 y+18446744073709551616^n*c=bv 18446744073709551616 y0+bv 18446744073709551616 vs:=by
 intro dq sq;generalize bk:aI [0,1,5,6,17,156,157] sq=s0;revert bk s0 sq dq;apply du;rintro k s ⟨i,c,y,rfl,hk,ly,gy,hc,aS⟩;by_cases hi:i<n
 ·left
  have dW:(0:Nat)<18446744073709551616:=by decide
  have rm:=gV dW gv i;have qg:=gV dW gy i;have ev:=hw.aY (i:=i) (by omega);have ey:=zL (l:=pre++y++post) (o:=pre.length+i) (by rw [po];omega);rw [CF (by omega)] at ey;have eS:=ju (b:=18446744073709551616) (l:=vs) i;obtain ⟨a,ha⟩:∃a,a=vs.getD i 0:=⟨_,rfl⟩;obtain ⟨d,hd⟩:∃d,d=y.getD i 0:=⟨_,rfl⟩;rw [<-ha] at rm ev eS;rw [<-hd] at qg ey;have f1:=C3 (P:=P) (f:=D P L) gN qg rm hc;have a7:=nX (b:=18446744073709551616) (l:=y) (i:=i) (x:=(d+a+c)%18446744073709551616) (by omega);rw [<-hd] at a7;have ib:=L7 (18446744073709551616^i) 18446744073709551616 (d+a+c);have lf:(d+a+c)/18446744073709551616<=1:=by omega
  have GB:(d+a+c)%18446744073709551616<18446744073709551616:=xF _ dW;generalize (d+a+c)%18446744073709551616=z at*
  generalize (d+a+c)/18446744073709551616=c' at*
  have aO:=fun (hp:Hp) (ct:Nat)=>kG (hp:=hp) (ct:=ct) (id:=0) (v:=z) (ex:=true) (l:=pre++y++post) (o:=pre.length+i) (by rw [po];omega)
  have ol:=M3 (pre:=pre) (x:=y) (post:=post) (i:=i) z (by omega);simp only [go_sem,ya,yf,IP,H2,show (i:Int)<(n:Int) by omega,ev,f1,bN 0 pre.length (show i<n+1 by omega),ey,aO,ol];refine ⟨_,k-1,rfl,by omega,i+1,c',y.set i z,?_,by omega,by simp [ly],ml gy GB,lf,?_⟩
  ·rw [qH (by simp only [go_sem,ya,yD,mo,mS,mg,mf,qB hw.pu,vz]) (by simp only [go_sem,ya,yb,yD,aD hw.pu])];rw [wrap64 (by omega) (by omega)];simp only [go_sem,ya]<;>rfl
  ·rw [eS,xd];rw [xI,xI] at ib;omega
 ·right
  have:i=n:=by omega
  subst this;rw [yN (by omega)] at aS;simp only [go_sem,ya,IP,H2,show ¬(i:Int)<(i:Int) by omega];exact ⟨_,_,rfl,by simp,_,c,y,rfl,rfl,by simp only [go_sem,ya],by simp only [go_sem,ya],by simp only [go_sem,ya],by simp only [go_sem,ya],ly,gy,hc,aS⟩
end
end
section
open Go (IntKind)
def step_end {A V q Y B bo:Nat} (hV:0<V) (h:Y+q*V=A+B*bo) (h1:A/V<=q) (h2:q<=A/V+1) (hY:Y<B) (hVB:V<=B) (jm:bo<=1):
  (bo=0->q=A/V/\Y=A%V)/\(bo=1->q=A/V+1/\Y+V=B+A%V):=by
 have fP:=xU A V;have hm:=xF A hV;generalize A/V=Q at*
 have hq:q=Q\/q=Q+1:=by omega
 constructor
 ·rintro rfl;rcases hq with rfl | rfl
  ·grind
  ·grind
 ·grind
section
variable {P:aK} {L:Lib}
structure Wd (P:aK) (L:Lib):Prop where
 mA:L.pure 143=some rT
 gN:L.pure 171=some nV
 ss:L.pure 173=some A3
 Ki:L.pure 167=some Fa
 ak6:Has P L 165 JF
 mz:Has P L 166 Bq
 ak7:Has P L 168 Od
 aB4:Has P L 169 sd
 ak8:Has P L 158 Fu
 aB5:Has P L 157 JE
 ak9:Has P L 159 Ob
 aB6:Has P L 144 N8
 YH:Has P L 137 JC
def az:VC->VC
 | .seq _ b=>b
 | c=>c
def ayN (h:Wd P L) {w:AV} {x vs pre post qs:List Nat} (hw:bV w vs) {n v1 v2 u0 u1 u2:Nat} (hl:hX x vs n v1 v2 u0 u1 u2) {q:Nat} (hq:q<18446744073709551616) (fm:bv 18446744073709551616 x/bv 18446744073709551616 vs<=q) (GF:q<=bv 18446744073709551616 x/bv 18446744073709551616 vs+1):
  ∃tm x',D P L (az (az (az (az (az (az sd.body)))))) ⟨[(0,.ao 0 pre.length (n+1)),(1,w),(5,ab n),(6,uc q)],H2 qs (pre++x++post),2,2⟩=some (.ret,⟨tm,H2 qs (pre++x'++post),2,2⟩)/\ai tm 4=uc (bv 18446744073709551616 x/bv 18446744073709551616 vs)/\x'.length=n+1/\lo 18446744073709551616 x'/\bv 18446744073709551616 x'=bv 18446744073709551616 x%bv 18446744073709551616 vs:=by
 have dQ:=hl.n2;have pX:=hl.nb;have dW:(0:Nat)<18446744073709551616:=by decide
 have hV:0<bv 18446744073709551616 vs:=by
  rcases xp (bv 18446744073709551616 vs) with h0 | h0
  ·have:=hl.lt;rw [h0] at this;simp at this
  ·exact h0
 have sW:below 2 w:=qB hw.pu;have Lf:=mr hl.gv;rw [hl.lv] at Lf;have aIY:18446744073709551616^n<=18446744073709551616^(n+1):=xh (by decide) (by omega);have aIZ:az (az (az (az (az (az sd.body)))))=az (az (az (az (az (az sd.body))))):=rfl;simp only [go_sem,ya,sd,az,H2];generalize mJ:D P L (.loop [0,1,5,6,11,12,104,105] IN) _=qq;obtain ⟨ex,s,rfl,tm,c,bo,y,rfl,rfl,t0,t1,t5,t6,t11,t12,ly,gy,hc,jm,aS⟩:=bJ mJ (ayL (P:=P) (L:=L) h.mA h.gN h.ss hw pX hl.lv hl.gv hq (x:=x) (pre:=pre) (post:=post) (qs:=qs) n) ⟨0,0,0,x,by
  rw [qH (by simp only [go_sem,ya,yD,mo,mS,mg,mf,sW,vz]) (by simp only [go_sem,ya,yb,yD,aD hw.pu])]
  simp only [go_sem,ya]<;>rfl,by omega,hl.lx,hl.gx,dW,by omega,by simp [bv]⟩
 have gyn:=gV dW gy n;have ey:=zL (l:=pre++y++post) (o:=pre.length+n) (by rw [po];omega);rw [CF (by omega)] at ey;obtain ⟨d,hd⟩:∃d,d=y.getD n 0:=⟨_,rfl⟩;rw [<-hd] at gyn ey;have f3:=S6 (P:=P) (f:=D P L) h.ss gyn hc jm;have kH:=R4 gyn hc jm;obtain ⟨z,hz⟩:∃t,t=(d+18446744073709551616*2-c-bo)%18446744073709551616:=⟨_,rfl⟩;obtain ⟨b',cw⟩:∃t,t=(if c+bo<=d then 0 else 1):=⟨_,rfl⟩;have kW:b'<=1:=by rw [cw];split<;>omega
 have GB:z<18446744073709551616:=by rw [hz];exact xF _ dW
 rw [<-hz,<-cw] at f3 kH;have a7:=nX (b:=18446744073709551616) (l:=y) (i:=n) (x:=z) (by omega);rw [<-hd] at a7;have aO:=fun (hp:Hp) (ct:Nat)=>kG (hp:=hp) (ct:=ct) (id:=0) (v:=z) (ex:=true) (l:=pre++y++post) (o:=pre.length+n) (by rw [po];omega)
 have ol:=M3 (pre:=pre) (x:=y) (post:=post) (i:=n) z (by omega);have D0:lo 18446744073709551616 (y.set n z):=ml gy GB;have B4:(y.set n z).length=n+1:=by simp [ly]
 have hY:=mr D0;rw [B4] at hY;have aB7:bv 18446744073709551616 (y.set n z)+q*bv 18446744073709551616 vs=bv 18446744073709551616 x+18446744073709551616^(n+1)*b':=by
  have e2:=congrArg (fun t=>18446744073709551616^n*t) kH;rw [xd,xo];simp only [xI] at e2 aS;generalize 18446744073709551616^n*(18446744073709551616*b')=p1 at*
  generalize 18446744073709551616^n*z=p2 at*
  generalize 18446744073709551616^n*d=p3 at*
  generalize 18446744073709551616^n*c=p4 at*
  generalize 18446744073709551616^n*bo=p5 at*
  omega
 obtain ⟨s0,s1⟩:=step_end hV aB7 fm GF hY (by omega) kW;simp only [go_sem,ya,yb,yD,yf,qH,mo,mS,mg,mf,sW,vz,aD hw.pu,t0,t1,t5,t6,t11,t12,bN 0 pre.length (show n<n+1 by omega),ey,f3,aO,ol];by_cases lV:b'=0
 ·obtain ⟨e1,e2⟩:=s0 lV;simp only [go_sem,ya,show (b':Int)=0 by omega];exact ⟨_,y.set n z,rfl,by rw [<-e1];simp only [go_sem],B4,D0,e2⟩
 ·obtain ⟨e1,e2⟩:=s1 (by omega);simp only [go_sem,ya,show ¬(b':Int)=0 by omega];generalize Dy:D P L (.loop [0,1,5,6,17,156,157] IP) _=qq2;obtain ⟨ex,s,rfl,sE,c2,y2,rfl,rfl,t0,t5,t6,t17,ly2,Qe,sN,aAL⟩:=bJ Dy (ayM (P:=P) (L:=L) h.gN hw pX hl.lv hl.gv (y0:=y.set n z) (pre:=pre) (post:=post) (qs:=qs) (q:=q) n) ⟨0,0,y.set n z,by
   rw [qH (by simp only [go_sem,ya,yD,mo,mS,mg,mf,sW,vz]) (by simp only [go_sem,ya,yb,yD,aD hw.pu])]
   simp only [go_sem,ya]<;>rfl,by omega,B4,D0,by omega,by simp [bv]⟩
  have aB8:=gV dW Qe n;have ey2:=zL (l:=pre++y2++post) (o:=pre.length+n) (by rw [po];omega);rw [CF (by omega)] at ey2;obtain ⟨d2,fF⟩:∃d,d=y2.getD n 0:=⟨_,rfl⟩;rw [<-fF] at aB8 ey2;have f4:=Bk d2 c2;have NN:=nX (b:=18446744073709551616) (l:=y2) (i:=n) (x:=(d2+c2)%18446744073709551616) (by omega);rw [<-fF] at NN;have ib:=L7 (18446744073709551616^n) 18446744073709551616 (d2+c2);have aB9:(d2+c2)%18446744073709551616<18446744073709551616:=xF _ dW;have hc3:(d2+c2)/18446744073709551616<=1:=by omega
  generalize (d2+c2)%18446744073709551616=z2 at*
  generalize (d2+c2)/18446744073709551616=c3 at*
  have Pn:=fun (hp:Hp) (ct:Nat)=>kG (hp:=hp) (ct:=ct) (id:=0) (v:=z2) (ex:=true) (l:=pre++y2++post) (o:=pre.length+n) (by rw [po];omega)
  have NO:=M3 (pre:=pre) (x:=y2) (post:=post) (i:=n) z2 (by omega);have Qf:lo 18446744073709551616 (y2.set n z2):=ml Qe aB9;have Lg:(y2.set n z2).length=n+1:=by simp [ly2]
  have hY3:=mr Qf;rw [Lg] at hY3;have bk:0<q:=by rw [e1];exact Nat.succ_pos _
  have sX:bv 18446744073709551616 x/bv 18446744073709551616 vs=q-1:=by rw [e1,tH]
  have f5:binOp .sub (uc q) (.int .u64 1)=some (uc (q-1)):=Dx (b:=1) (by omega) (by omega);simp only [go_sem,ya,yb,yD,yf,qH,mo,mS,mg,mf,vz,t0,t5,t6,t17,bN 0 pre.length (show n<n+1 by omega),ey2,f4,Pn,NO,f5];refine ⟨_,y2.set n z2,rfl,by rw [sX];simp only [go_sem],Lg,Qf,?_⟩;have e3:bv 18446744073709551616 (y2.set n z2)+18446744073709551616^(n+1)*c3=18446744073709551616^(n+1)+bv 18446744073709551616 x%bv 18446744073709551616 vs:=by
   rw [<-e2,<-aAL,xd];rw [xI] at ib;omega
  rcases (show c3=0\/c3=1 by omega) with rfl | rfl
  ·omega
  ·omega
def aCa (h:Wd P L) {w:AV} {x vs pre post qs:List Nat} (hw:bV w vs) {n v1 v2 u0 u1 u2:Nat} (hl:hX x vs n v1 v2 u0 u1 u2):
  ∃x',il P L (D P L) (H2 qs (pre++x++post)) 2 169 [.ao 0 pre.length (n+1),w]=some (uc (bv 18446744073709551616 x/bv 18446744073709551616 vs),H2 qs (pre++x'++post),2)/\x'.length=n+1/\lo 18446744073709551616 x'/\bv 18446744073709551616 x'=bv 18446744073709551616 x%bv 18446744073709551616 vs:=by
 have dQ:=hl.n2;have pX:=hl.nb;have sW:below 2 w:=qB hw.pu;have qd:(n:Int)-1=((n-1:Nat):Int):=by omega
 have e9:=hw.aY (i:=n-1) (by have:=hl.lv;omega);rw [hl.eZ] at e9;have B5:=zL (l:=pre++x++post) (o:=pre.length+n) (by rw [po];have:=hl.lx;omega)
 rw [CF (by have:=hl.lx;omega),hl.h0] at B5;have B6:=zL (l:=pre++x++post) (o:=pre.length+(n-1)) (by rw [po];have:=hl.lx;omega)
 rw [CF (by have:=hl.lx;omega),hl.h1] at B6;have F2:=hl.Lb;have Po:=hl.Lc;have om:=hl.top;have je:∃tm x',D P L sd.body ⟨dX 0 [.ao 0 pre.length (n+1),w],H2 qs (pre++x++post),2,2⟩=some (.ret,⟨tm,H2 qs (pre++x'++post),2,2⟩)/\ai tm 4=uc (bv 18446744073709551616 x/bv 18446744073709551616 vs)/\x'.length=n+1/\lo 18446744073709551616 x'/\bv 18446744073709551616 x'=bv 18446744073709551616 x%bv 18446744073709551616 vs:=by
  have behind:∀(jP:Env) (q:Nat),ai jP 0= .ao 0 pre.length (n+1)->ai jP 1=w->ai jP 5=ab n->ai jP 6=uc q->q<18446744073709551616->bv 18446744073709551616 x/bv 18446744073709551616 vs<=q->q<=bv 18446744073709551616 x/bv 18446744073709551616 vs+1->
    ∃tm x',jK P L (jK P L (mW 0 (some (Ex.exit 0,⟨jP,H2 qs (pre++x++post),2,2⟩))) (.kp [0,1,5,6])) (az (az (az (az (az (az sd.body))))))=some (.ret,⟨tm,H2 qs (pre++x'++post),2,2⟩)/\ai tm 4=uc (bv 18446744073709551616 x/bv 18446744073709551616 vs)/\x'.length=n+1/\lo 18446744073709551616 x'/\bv 18446744073709551616 x'=bv 18446744073709551616 x%bv 18446744073709551616 vs:=by
   intro jP q t0 t1 t5 t6 g1 g2 g3;have hk:cg jP [0,1,5,6]=[(0,.ao 0 pre.length (n+1)),(1,w),(5,ab n),(6,uc q)]:=by simp only [go_sem,t0,t1,t5,t6]
   rw [Sn,fB,Yy,qH (by rw [hk];simp only [go_sem,yD,mo,mS,mg,mf,sW,vz]) (by rw [hk];simp only [go_sem,yb,yD,aD hw.pu]),fB,hk];exact ayN h hw hl g1 g2 g3
  by_cases hc:u0<v1
  ·have f1:=ak1 h.ak6 h.Ki (P:=P) (L:=L) hc Po F2;have fP:=xU (u0*18446744073709551616+u1) v1;have sA:=xF (u0*18446744073709551616+u1) hl.pos;have oM:(u0*18446744073709551616+u1)/v1<18446744073709551616:=by
    refine (wg hl.pos).2 ?_
    have:=yV 18446744073709551616 (show u0+1<=v1 from hc)
    rw [xL 18446744073709551616 v1];omega
   have Nt:=hl.first;rw [xL] at fP;generalize (u0*18446744073709551616+u1)/v1=q0 at*
   generalize (u0*18446744073709551616+u1)%v1=r0 at*
   simp only [go_sem,ya,yf,sd,H2,hw.len,hl.lv,qd,wrapN (n:=n-1) (by omega),e9,bN 0 pre.length (show n<n+1 by omega),bN 0 pre.length (show n-1<n+1 by omega),B5,B6,show ¬(v1:Int)<=(u0:Int) by omega,f1];generalize mJ:D P L (.loop [0,1,5,6,7,8] zA) _=qq;obtain ⟨ex,s,rfl,jP,q,rfl,rfl,t0,t1,t5,t6,g1,g2,g3⟩:=bJ mJ (aiH (P:=P) (L:=L) h.mA h.gN hw hl (pre:=pre) (post:=post) (qs:=qs) q0) ⟨q0,r0,by
    rw [qH (by simp only [go_sem,ya,yD,mo,mS,mg,mf,sW,vz]) (by simp only [go_sem,ya,yb,yD,aD hw.pu])];rw [yW (show r0<18446744073709551616 by omega),wT (show r0<18446744073709551616 by omega)]
    simp only [go_sem,ya]<;>rfl,fP,by omega,oM,Nt,rfl⟩
   exact behind jP q t0 t1 t5 t6 g1 g2 g3
  ·have oJ:u0=v1:=by omega
   have f1:=C3 (P:=P) (f:=D P L) h.gN Po F2 (c:=0) (by omega);rw [yY,show (uc 0)=AV.int .u64 0 from rfl] at f1;have Pp:=hl.digit
   simp only [go_sem,ya,yf,sd,H2,hw.len,hl.lv,qd,wrapN (n:=n-1) (by omega),e9,bN 0 pre.length (show n<n+1 by omega),bN 0 pre.length (show n-1<n+1 by omega),B5,B6,show (v1:Int)<=(u0:Int) by omega,f1];generalize mJ:D P L (.loop [0,1,5,6,7,8] zA) _=qq;obtain ⟨ex,s,rfl,jP,q,rfl,rfl,t0,t1,t5,t6,g1,g2,g3⟩:=bJ mJ (aiH (P:=P) (L:=L) h.mA h.gN hw hl (pre:=pre) (post:=post) (qs:=qs) 18446744073709551615) ⟨18446744073709551615,u1+v1,by
    rw [qH (by simp only [go_sem,ya,yD,mo,mS,mg,mf,sW,vz]) (by simp only [go_sem,ya,yb,yD,aD hw.pu])]
    simp only [go_sem,ya]<;>rfl,by rw [oJ];omega,by omega,by decide,by omega,rfl⟩
   exact behind jP q t0 t1 t5 t6 g1 g2 g3
 obtain ⟨tm,x',g1,g2,g3,g4,g5⟩:=je;refine ⟨x',?_,g3,g4,g5⟩;exact M1 h.aB4 g1 (.inr rfl) (by show iU _ [RV.t 4]=_;rw [Yz,TE,g2])
end
end
section
open Go (IntKind)
def WN (v:AV) (m:Nat):Prop:=∃l,bV v l/\lo 18446744073709551616 l/\gQ l/\bv 18446744073709551616 l=m
def asW (i:Nat) (q:List Nat) (x:Nat):(yj (i+1) 0++q).set i x=yj i 0++x::q:=by
 rw [List.replicate_succ',xy]
 simp_all
def M4 {b:Nat} {l:List Nat} {i:Nat} (h:i<l.length):bv b (l.drop i)=l.getD i 0+b*bv b (l.drop (i+1)):=by
 rw [yP h,gd h];rfl
def S8 {v w:AV} {x y:List Nat} (hv:bV v x) (hw:bV w y) (hp:Hp):result hp (.ae [v,w])=some (.ae [v,w]):=by
 rcases hv with ⟨rfl,_⟩ | ⟨e,rfl⟩<;>rcases hw with ⟨rfl,_⟩ | ⟨e',rfl⟩<;>rfl
def au4 {hp:Hp} {id n l h:Nat} {pu ex:Bool} {cs:List AV} {tm:Env} {x y:X} (hg:au hp id=some (.cells true pu ex 1 cs)) (hx:dc tm 0 (some x)=some l) (hy:dc tm n (some y)=some h) (h1:l<h) (h2:h<=n):
  ff hp (.sl 1) (.ao id 0 n) tm (some x) (some y)=some (.ao id l (h-l)):=by
 simp only [ff,hg,hx,hy,ym (uX h1),ym h2,wW,wm,yA,gF (Nat.ne_of_lt h1),xN,yT,ye,yf]
def adW {hp:Hp} {id n h:Nat} {pu ex:Bool} {cs:List AV} {tm:Env} {y:X} (hg:au hp id=some (.cells true pu ex 1 cs)) (hy:dc tm n (some y)=some h) (h1:0<h) (h2:h<=n):
  ff hp (.sl 1) (.ao id 0 n) tm none (some y)=some (.ao id 0 h):=by
 have hx:dc tm 0 none=some 0:=rfl;simp only [ff,hg,hx,hy,ym (uf h),ym h2,wW,wm,yA,gF (show (0:Nat)≠h by omega),xN,yT,tS,yY,Nat.sub_zero]
def ajp (P:aK) (L:Lib) (f:cA) (hp:Hp) (ct n:Nat) (xs:List AV):eB P L f hp ct .heap (.fn (.f n) [] []) xs=il P L f hp ct n xs:=by
 simp only [eB,xB,xY]
section
variable {P:aK} {L:Lib}
def ayO (h:Wd P L) {v w:AV} {x:List Nat} (hv:bV v x) (hx:lo 18446744073709551616 x) (lx:x.length<=99999999999) {d:Nat} (hw:bV w [d]) (iC:0<d) (hdW:d<18446744073709551616) {n:Nat} (hn:n=x.length):
  ∀k s,(∃(i r:Nat) (q:List Nat),aI [0,1,6,7,8] s=⟨[(0,v),(1,w),(6,.ao 0 0 n),(7,uc r),(8,ab ((i:Int)-1))],[(0,.cells true true true 1 ((yj i 0++q).map uc))],1,0⟩/\i=k/\i+q.length=n/\lo 18446744073709551616 q/\r<d/\bv 18446744073709551616 (x.drop i)=bv 18446744073709551616 q*d+r)->
   ∃ex s',D P L (.loop [0,1,6,7,8] IJ) s=some (ex,s')/\∃tm r q,s'=⟨tm,[(0,.cells true true true 1 (q.map uc))],1,0⟩/\ex= .exit 0/\ai tm 6= .ao 0 0 n/\ai tm 7=uc r/\q.length=n/\lo 18446744073709551616 q/\r<d/\bv 18446744073709551616 x=bv 18446744073709551616 q*d+r:=by
 intro dq sq;generalize bk:aI [0,1,6,7,8] sq=s0;revert bk s0 sq dq;apply du;rintro k s ⟨i,r,q,rfl,rfl,hlen,bh,hr,aS⟩
 cases i with
 | zero=>
  right
  simp only [go_sem,ya,IJ,show ¬(0:Int)<=((0:Nat):Int)-1 by omega];exact ⟨_,_,rfl,by simp,_,r,q,rfl,rfl,by simp only [go_sem,ya],by simp only [go_sem,ya],by omega,bh,hr,by simpa using aS⟩
 | succ i=>
  left
  have gx:=gV (show 0<18446744073709551616 by decide) hx i;have e1:=hv.aY (i:=i) (by omega);have e2:=hw.aY (i:=0) (by simp);have jl:=M4 (b:=18446744073709551616) (l:=x) (i:=i) (by omega);rw [show ([d]:List Nat).getD 0 0=d from rfl] at e2;generalize x.getD i 0=a at*
  have e3:=ak1 (P:=P) (L:=L) h.ak6 h.Ki hr gx hdW;have fP:=xU (r*18446744073709551616+a) d;have sA:=xF (r*18446744073709551616+a) iC;have oM:(r*18446744073709551616+a)/d<18446744073709551616:=by
   refine (wg iC).2 ?_;omega
  generalize (r*18446744073709551616+a)/d=q1 at*
  generalize (r*18446744073709551616+a)%d=r1 at*
  have aO:=fun (hp:Hp) (ct:Nat)=>kG (hp:=hp) (ct:=ct) (id:=0) (v:=q1) (ex:=true) (l:=yj (i+1) 0++q) (o:=i) (by simp;omega)
  simp only [go_sem,ya,yf,IJ,show ((i+1:Nat):Int)-1=(i:Int) by omega,show (0:Int)<=(i:Int) by omega,e1,e2,e3,bN 0 0 (show i<n by omega),ye,aO,asW];refine ⟨_,i,rfl,by omega,i,r1,q1::q,?_,rfl,by simp;omega,Mi.2 ⟨E1.2 oM,bh⟩,sA,?_⟩
  ·rw [wrap64 (by omega) (by omega)];simp only [go_sem,ya,yb,ax,aD hv.pu,aE _ hv.pu,aD hw.pu,aE _ hw.pu]<;>rfl
  ·rw [jl,aS];simp only [bv];rw [wJ,xI,<-xo 18446744073709551616];rw [xL d q1] at fP;omega
def aqU {s u u1:Nat} (hs:s<64) (hu:u<18446744073709551616):u/2^s<18446744073709551616/\(0<s->u/2^s|||(u1*2^(64-s)%18446744073709551616)<18446744073709551616)/\
  (if 0<s then (u/2^s|||(u1*2^(64-s)%18446744073709551616)) else u/2^s)*2^s+u%2^s=u+18446744073709551616*(u1%2^s):=by
 have e:18446744073709551616=2^s*2^(64-s):=by rw [<-wS,show s+(64-s)=64 by omega]
 have h1:u1*2^(64-s)%18446744073709551616=(u1%2^s)*2^(64-s):=by rw [e,vS]
 have hp:=wL s;have h2:u/2^s<2^(64-s):=by
  refine (wg hp).2 ?_
  grind
 have h3:u/2^s|||(u1*2^(64-s)%18446744073709551616)=(u1%2^s)*2^(64-s)+u/2^s:=by rw [h1,ybP,S7 h2]
 have h4:(u1%2^s)*2^(64-s)+u/2^s<18446744073709551616:=by
  have:=yV (2^(64-s)) (show u1%2^s+1<=2^s from xF _ hp)
  grind
 have h5:=tA u (2^s)
 grind
def ayP {us qs:List Nat} {n la m s:Nat} (hs:s<64) (lu:us.length=la) (gu:lo 18446744073709551616 us) (hn:n<la) (Lh:la<=100000000000):
  ∀k st,(∃(i:Nat) (rs:List Nat),aI [9,11,12,13,96,97] st=⟨[(9,ab s),(11,.ao 0 0 la),(12,ab n),(13,.ao 1 0 m),(96,ab n),(97,ab i)],H2 qs (rs++us.drop i),2,0⟩/\i+k=n/\rs.length=i/\lo 18446744073709551616 rs/\bv 18446744073709551616 rs*2^s+us.getD 0 0%2^s=bv 18446744073709551616 (us.take i)+18446744073709551616^i*(us.getD i 0%2^s))->
   ∃ex st',D P L (.loop [9,11,12,13,96,97] EL) st=some (ex,st')/\∃tm rs,st'=⟨tm,H2 qs (rs++us.drop n),2,0⟩/\ex= .exit 4/\ai tm 11= .ao 0 0 la/\ai tm 12=ab n/\ai tm 13= .ao 1 0 m/\rs.length=n/\lo 18446744073709551616 rs/\bv 18446744073709551616 rs*2^s+us.getD 0 0%2^s=bv 18446744073709551616 (us.take n)+18446744073709551616^n*(us.getD n 0%2^s):=by
 intro dq sq;generalize bk:aI [9,11,12,13,96,97] sq=s0;revert bk s0 sq dq;apply du;rintro k st ⟨i,rs,rfl,hk,lr,gr,aS⟩;by_cases hi:i<n
 ·left
  have dW:(0:Nat)<18446744073709551616:=by decide
  have g0:=gV dW gu i;have g1:=gV dW gu (i+1);have d0:us.drop i=us.getD i 0::us.getD (i+1) 0::us.drop (i+2):=by
   rw [yP (show i<us.length by omega),yP (show i+1<us.length by omega),gd,gd]
  have eS:=ju (b:=18446744073709551616) (l:=us) i;have jd:∀r,r<18446744073709551616->r*2^s+us.getD i 0%2^s=us.getD i 0+18446744073709551616*(us.getD (i+1) 0%2^s)->lo 18446744073709551616 (rs++[r])/\bv 18446744073709551616 (rs++[r])*2^s+us.getD 0 0%2^s=bv 18446744073709551616 (us.take (i+1))+18446744073709551616^(i+1)*(us.getD (i+1) 0%2^s):=fun r h1 h2=>by
   refine ⟨Mi.2 ⟨gr,E1.2 h1⟩,?_⟩;rw [rI,A7,lr,eS,wJ,xd,xo,xo];have e2:=congrArg (fun t=>18446744073709551616^i*t) h2;simp only [xI] at e2;generalize 18446744073709551616^i*(r*2^s)=p1 at*
   generalize 18446744073709551616^i*(us.getD i 0%2^s)=p2 at*
   generalize 18446744073709551616^i*us.getD i 0=p3 at*
   generalize 18446744073709551616^i*(18446744073709551616*(us.getD (i+1) 0%2^s))=p4 at*
   omega
  have YI:us.drop (i+1)=us.getD (i+1) 0::us.drop (i+2):=by
   rw [yP (show i+1<us.length by omega),gd]
  generalize us.getD i 0=a at*
  obtain ⟨c,hc⟩:∃c,c=us.getD (i+1) 0:=⟨_,rfl⟩;rw [<-hc] at g1 d0 YI jd;generalize us.drop (i+2)=dr at*
  rw [d0];obtain ⟨n1,n2,n3⟩:=aqU (u1:=c) hs g0;have o1:=Kh .i64 a (s:=s) (by omega);have o2:=Kg .i64 c (s:=64-s) (by omega);have o3:binOp .sub (.int .i64 64) (ab s)=some (ab (64-s:Nat)):=by
   rw [MW,wrap64 (by omega) (by omega)];congr 2;omega
  have o4:=Z7 n1 (xF (c*2^(64-s)) dW);have sa:∀z y,(rs++z::y).set i a=rs++a::y:=fun z y=>by rw [yaf _ _ (by omega),lr];simp
  have e0:∀z y,vD i ((rs++z::y).map uc)=uc z::y.map uc:=fun z y=>by
   rw [xi,uE (by simp [lr])];rfl
  have e1:∀z y u,vD (i+1) ((rs++z::y::u).map uc)=uc y::u.map uc:=fun z y u=>by
   rw [show rs++z::y::u=(rs++[z])++y::u by simp,xi,uE (by simp [lr])];rfl
  have nC:∀(hp:Hp) (ct x z:Nat) (y:List Nat),iR hp ct 0 i 1 [.int .u64 (x:Int)] (some (.cells true true true 1 ((rs++z::y).map uc)))=some (.ae [],a7 hp 0 (.cells true true true 1 ((rs++x::y).map uc)),ct):=fun hp ct x z y=>by
   rw [kG (by simp;omega),yaf _ _ (by omega),lr];simp
  by_cases h0:0<s
  ·rw [yM h0] at n3;obtain ⟨f1,f2⟩:=jd _ (n2 h0) n3;generalize a/2^s=a1 at*
   generalize a1|||(c*2^(64-s)%18446744073709551616)=r at*
   simp only [go_sem,ya,yf,EL,H2,show (i:Int)<(n:Int) by omega,bN 0 0 (show i<la by omega),ye,e0,o1,nC,show (0:Int)<(s:Int) by omega,show (i:Int)+1=((i+1:Nat):Int) from rfl,wrapN (n:=i+1) (by omega),show ((i+1:Nat):Int)<(la:Int) by omega,bN 0 0 (show i+1<la by omega),e1,o3,o2,o4];refine ⟨_,k-1,rfl,by omega,i+1,rs++[r],by simp only [go_sem,ya,yb,ax];rw [YI];simp,by omega,by simp [lr],f1,by rw [<-hc];exact f2⟩
  ·rw [yx h0] at n3;obtain ⟨f1,f2⟩:=jd _ n1 n3;generalize a/2^s=a1 at*
   simp only [go_sem,ya,yf,EL,H2,show (i:Int)<(n:Int) by omega,bN 0 0 (show i<la by omega),ye,e0,o1,nC,show ¬(0:Int)<(s:Int) by omega,show (i:Int)+1=((i+1:Nat):Int) from rfl,wrapN (n:=i+1) (by omega)];refine ⟨_,k-1,rfl,by omega,i+1,rs++[a1],by simp only [go_sem,ya,yb,ax];rw [YI];simp,by omega,by simp [lr],f1,by rw [<-hc];exact f2⟩
 ·right
  have:i=n:=by omega
  subst this;simp only [go_sem,ya,EL,H2,show ¬(i:Int)<(i:Int) by omega];exact ⟨_,_,rfl,by simp,_,rs,rfl,rfl,by simp only [go_sem,ya],by simp only [go_sem,ya],by simp only [go_sem,ya],lr,gr,aS⟩
end
end
section
open Go (IntKind)
def acT {b p A V bu bq0 U0 pre:Nat} (h1:bu=pre+p*A) (h2:bu+bq0*V=U0):(pre+p*(A%V))+(bq0+p*(A/V))*V=U0:=by
 have fP:=xU A V
 grind
def ajq (hp:Hp) (ct:Nat) (ex:Bool) (sz n:Nat) (cs:List AV):own hp ct (.bn ex sz n cs)=(.ao ct 0 n,(ct,.cells true true ex sz cs)::hp,ct+1):=rfl
section
variable {P:aK} {L:Lib}
def ayQ (h:Wd P L) {w:AV} {vs:List Nat} (hw:bV w vs) (gv:lo 18446744073709551616 vs) {n la m:Nat} (lv:vs.length=n) (dQ:2<=n) (Gk:n<=la) (Lh:la<=99999999999) (hm:m=la-n+1) (eZ:0<vs.getD (n-1) 0) {s U0:Nat}:
  ∀k st,(∃(j:Nat) (us qs:List Nat),aI [9,10,11,12,13,14] st=⟨[(9,ab s),(10,w),(11,.ao 0 0 (la+1)),(12,ab n),(13,.ao 1 0 m),(14,ab ((j:Int)-1))],H2 qs us,2,0⟩/\j=k/\j<=m/\us.length=la+1/\qs.length=m/\lo 18446744073709551616 us/\lo 18446744073709551616 qs/\(∀i,i<j->qs.getD i 0=0)/\
    bv 18446744073709551616 us+bv 18446744073709551616 qs*bv 18446744073709551616 vs=U0/\bv 18446744073709551616 (us.drop j)<bv 18446744073709551616 vs)->
   ∃ex st',D P L (.loop [9,10,11,12,13,14] IK) st=some (ex,st')/\∃tm us qs,st'=⟨tm,H2 qs us,2,0⟩/\ex= .exit 2/\ai tm 9=ab s/\ai tm 11= .ao 0 0 (la+1)/\ai tm 12=ab n/\ai tm 13= .ao 1 0 m/\us.length=la+1/\qs.length=m/\lo 18446744073709551616 us/\lo 18446744073709551616 qs/\
    bv 18446744073709551616 us+bv 18446744073709551616 qs*bv 18446744073709551616 vs=U0/\bv 18446744073709551616 us<bv 18446744073709551616 vs:=by
 intro dq sq;generalize bk:aI [9,10,11,12,13,14] sq=s0;revert bk s0 sq dq;apply du;rintro k st ⟨j,us,qs,rfl,rfl,hj,lu,lq,gu,gq,hz,aS,om⟩
 cases j with
 | zero=>
  right
  simp only [go_sem,ya,IK,H2,show ¬(0:Int)<=((0:Nat):Int)-1 by omega];exact ⟨_,_,rfl,by simp,_,us,qs,rfl,rfl,by simp only [go_sem,ya],by simp only [go_sem,ya],by simp only [go_sem,ya],by simp only [go_sem,ya],lu,lq,gu,gq,aS,by simpa using om⟩
 | succ j=>
  left
  have dW:(0:Nat)<18446744073709551616:=by decide
  obtain ⟨pre,fe⟩:∃p,p=us.take j:=⟨_,rfl⟩;obtain ⟨x,hx⟩:∃p,p=(us.drop j).take (n+1):=⟨_,rfl⟩;obtain ⟨post,gl⟩:∃p,p=us.drop (j+(n+1)):=⟨_,rfl⟩;have lp:pre.length=j:=by rw [fe,yE];omega
  have lx:x.length=n+1:=by rw [hx,yE,xT];omega
  have j9:us=pre++x++post:=by
   rw [fe,hx,gl,<-vX,xy,xS,xS]
  have gx:lo 18446744073709551616 x:=by rw [hx];exact A0 (ahg gu _) _
  have YJ:lo 18446744073709551616 pre:=by rw [fe];exact A0 gu _
  have aAM:lo 18446744073709551616 post:=by rw [gl];exact ahg gu _
  have hA:bv 18446744073709551616 (us.drop j)=us.getD j 0+18446744073709551616*bv 18446744073709551616 (us.drop (j+1)):=M4 (by omega);have hgj:=gV dW gu j;have hdx:us.drop j=x++post:=by rw [gl,hx,<-vX,xS]
  have Az:bv 18446744073709551616 (us.drop j)=bv 18446744073709551616 x+18446744073709551616^(n+1)*bv 18446744073709551616 post:=by rw [hdx,rI,lx]
  have Lf:=mr gv;rw [lv] at Lf;have aW:bv 18446744073709551616 (us.drop j)<18446744073709551616*bv 18446744073709551616 vs:=by omega
  have hp0:bv 18446744073709551616 post=0:=by
   rcases xp (bv 18446744073709551616 post) with e | e
   ·exact e
   ·have h1:=yZ (18446744073709551616^(n+1)) e;rw [yf,xd] at h1;rw [xd] at Az;omega
  rw [hp0,xJ,yY] at Az;have hl:hX x vs n (vs.getD (n-1) 0) (vs.getD (n-2) 0) (x.getD n 0) (x.getD (n-1) 0) (x.getD (n-2) 0):=
   ⟨dQ,by omega,lx,lv,gx,gv,rfl,rfl,rfl,rfl,rfl,eZ,by rw [<-Az];exact aW⟩
  have Pp:=hl.digit;obtain ⟨x',e1,lx',Qg,Li⟩:=aCa h hw hl (pre:=pre) (post:=post) (qs:=qs);rw [lp,<-j9] at e1;have hbu:bv 18446744073709551616 us=bv 18446744073709551616 pre+18446744073709551616^j*bv 18446744073709551616 x:=by
   have:=Ig (b:=18446744073709551616) us j (by omega)
   rw [Az,<-fe] at this;exact this
  have YK:bv 18446744073709551616 (pre++x'++post)=bv 18446744073709551616 pre+18446744073709551616^j*bv 18446744073709551616 x':=by
   rw [xy,rI,rI,hp0,xJ,yY,lp]
  have a7:=nX (b:=18446744073709551616) (l:=qs) (i:=j) (x:=bv 18446744073709551616 x/bv 18446744073709551616 vs) (by omega);rw [hz j (by omega),xJ,yY] at a7;have jd:=acT (b:=0) hbu aS;have aO:=fun (hp:Hp) (ct:Nat)=>kG (hp:=hp) (ct:=ct) (id:=1) (v:=bv 18446744073709551616 x/bv 18446744073709551616 vs) (ex:=true) (l:=qs) (o:=j) (by omega)
  have rk:0<bv 18446744073709551616 vs:=by omega
  have sA:=xF (bv 18446744073709551616 x) rk;have jO:∀tm (x y:X),dc tm 0 (some x)=some j->dc tm (la+1) (some y)=some (j+n+1)->ff (H2 qs us) (.sl 1) (.ao 0 0 (la+1)) tm (some x) (some y)=some (.ao 0 j (n+1)):=fun tm x y h1 h2=>by
   rw [au4 (cs:=us.map uc) (pu:=true) (ex:=true) rfl h1 h2 (by omega) (by omega),show j+n+1-j=n+1 by omega]
  simp only [go_sem,ya,yf,IK,H2,show ((j+1:Nat):Int)-1=(j:Int) by omega,show (0:Int)<=(j:Int) by omega,show (j:Int)+(n:Int)=((j+n:Nat):Int) from rfl,wrapN (n:=j+n) (by omega),show ((j+n:Nat):Int)+1=((j+n+1:Nat):Int) from rfl,wrapN (n:=j+n+1) (by omega),jO,dM,ajp,e1,bN 1 0 (show j<m by omega),ye,aO];refine ⟨_,j,rfl,by omega,j,pre++x'++post,qs.set j (bv 18446744073709551616 x/bv 18446744073709551616 vs),?_,rfl,by omega,by rw [po,lp,lx',gl,xT];omega,by simp [lq],Mi.2 ⟨Mi.2 ⟨YJ,Qg⟩,aAM⟩,ml gq Pp,fun i hi=>by rw [pn (by omega)];exact hz i (by omega),?_,?_⟩
  ·rw [wrap64 (by omega) (by omega)];simp only [go_sem,ya,yb,ax,aD hw.pu,aE _ hw.pu]<;>rfl
  ·rw [YK,Li,a7];exact jd
  ·rw [xy,uE lp,rI,hp0,xJ,yY,Li];exact sA
def aAN {l:List Nat} {n:Nat} (h:l.length=n+1):18446744073709551616^n*l.getD n 0<=bv 18446744073709551616 l:=by
 have:=ju (b:=18446744073709551616) (l:=l) n
 grind
def ot {m K:Nat} {l:List Nat} (hn:gQ l) (hv:bv 18446744073709551616 l=m) (h:m<18446744073709551616^K):l.length<=K:=aqh (b:=18446744073709551616) (by decide) hn (by rw [hv];exact h)
def ayR (h:Wd P L) {v w:AV} {x:List Nat} {d:Nat} (hv:bV v x) (hw:bV w [d]) (gx:lo 18446744073709551616 x) (lx:x.length<=90000000000) (iC:0<d) (hdW:d<18446744073709551616) (ec:ak P L 158 [v,w] (ab (dU (bv 18446744073709551616 x) d))) (hc:d<=bv 18446744073709551616 x):
  ∃q r,ak P L 137 [v,w] (.ae [q,r])/\WN q (bv 18446744073709551616 x/d)/\WN r (bv 18446744073709551616 x%d):=by
 have ew:¬dU (bv 18446744073709551616 x) d<0:=by unfold dU;rw [yx (by omega)];split<;>decide
 obtain ⟨n,hn⟩:∃n,n=x.length:=⟨_,rfl⟩;have main:∃r l,(∀c:Nat->AV->AV->Option AV,True)/\r<d/\l.length=n/\lo 18446744073709551616 l/\bv 18446744073709551616 x=bv 18446744073709551616 l*d+r/\
   ∃q1 r1,bV q1 (dZ l)/\bV r1 (dZ [r])/\ak P L 137 [v,w] (.ae [q1,r1]):=by
  unfold ak;rw [aH h.YH]
  simp only [go_sem,ya,JC,hv.len,hv.ap,hw.len,hw.ap,ec,ew,yz,yK,ye,show ((1:Nat):Int)=(1:Int) from rfl,<-hn,Dw (n:=n) _ (by omega)];generalize hq:D P L (.loop [0,1,6,7,8] IJ) _=q;obtain ⟨ex,s,rfl,tm,r,l,rfl,rfl,t6,t7,jT,bh,hr,aS⟩:=bJ hq (ayO (P:=P) (L:=L) h hv gx (by omega) hw iC hdW hn n) ⟨n,0,[],by
   rw [wrap64 (by omega) (by omega),xY]
   simp only [go_sem,ya,yb,ax,aD hv.pu,aE _ hv.pu,aD hw.pu,aE _ hw.pu]<;>rfl,rfl,rfl,Nn,iC,by rw [xf (by omega)];simp [bv]⟩
  have hf:=mQ true l;rw [jT] at hf;obtain ⟨q1,e1,fm⟩:=BD h.mz hf (by omega);obtain ⟨r1,e2,cC⟩:=BD h.mz (mQ true [r]) (by simp);simp only [yz,yK,ye,List.map_cons,List.map_nil] at e2;refine ⟨r,l,fun _=>trivial,hr,jT,bh,aS,q1,r1,fm,cC,?_⟩
  simp only [go_sem,ya,yb,yD,yk,yf,ax,t6,t7,BC _ (n:=n) (l:=l) jT true,e1,fm.shut,e2,cC.shut];exact S8 fm cC _
 obtain ⟨r,l,_,hr,jT,bh,aS,q1,r1,fm,cC,e⟩:=main;have hq:bv 18446744073709551616 l=bv 18446744073709551616 x/d:=by
  rw [aS,xL,tB iC,wT hr,yY]
 have hm:r=bv 18446744073709551616 x%d:=by
  rw [aS,xL,tC,yW hr]
 exact ⟨q1,r1,e,⟨_,fm,AX bh,AW _,by rw [AU,hq]⟩,⟨_,cC,AX (E1.2 (by omega)),AW _,by rw [AU,A7,hm]⟩⟩
def ayS (h:Wd P L) {v w:AV} {x y:List Nat} (hv:bV v x) (hw:bV w y) (gx:lo 18446744073709551616 x) (gy:lo 18446744073709551616 y) (nx:gQ x) (ny:gQ y) (lx:x.length<=90000000000) (ly:2<=y.length) (ec:ak P L 158 [v,w] (ab (dU (bv 18446744073709551616 x) (bv 18446744073709551616 y)))) (hc:bv 18446744073709551616 y<=bv 18446744073709551616 x):
  ∃q r,ak P L 137 [v,w] (.ae [q,r])/\WN q (bv 18446744073709551616 x/bv 18446744073709551616 y)/\WN r (bv 18446744073709551616 x%bv 18446744073709551616 y):=by
 have dW:(0:Nat)<18446744073709551616:=by decide
 have ew:¬dU (bv 18446744073709551616 x) (bv 18446744073709551616 y)<0:=by unfold dU;rw [yx (by omega)];split<;>decide
 have hyx:y.length<=x.length:=by
  by_cases hh:x.length<y.length
  ·have:=MV (b:=18446744073709551616) (by decide) gx ny hh;omega
  ·omega
 obtain ⟨n,hn⟩:∃n,n=y.length:=⟨_,rfl⟩;obtain ⟨la,Lh⟩:∃la,la=x.length:=⟨_,rfl⟩;have qM:=Mz ny (fun e=>by subst e;simp at ly);have D1:=gV dW gy (y.length-1);have eyl:=hw.aY (i:=y.length-1) (by omega);have jS:=aAN (l:=y) (n:=n-1) (by omega);rw [<-hn] at qM D1 eyl;obtain ⟨top,om⟩:∃top,y.getD (n-1) 0=top:=⟨_,rfl⟩;rw [om] at qM D1 eyl jS;have elz:=aiF (P:=P) (f:=D P L) h.Ki D1;obtain ⟨z1,z2,z3⟩:=R5 (yaI qM) D1;generalize 64-eL 64 top=s at*
 obtain ⟨ov,ev,lov,gov,vov⟩:=ak2 h.ak7 hw gy (by omega) z1;obtain ⟨ou,eu,lou,gou,vou⟩:=ak2 h.ak7 hv gx (by omega) z1;obtain ⟨v',evt,eG⟩:=BD h.mz (mQ true ov) (by omega);rw [lov,<-hn] at evt;rw [<-hn] at ev;rw [<-Lh] at eu lou;have ib:=wL s;obtain ⟨vs,Al⟩:∃vs,vs=dZ ov:=⟨_,rfl⟩;rw [<-Al] at eG;have D2:lo 18446744073709551616 vs:=by rw [Al];exact AX gov
 have Lj:gQ vs:=by rw [Al];exact AW _
 have sY:bv 18446744073709551616 vs=bv 18446744073709551616 y*2^s:=by rw [Al,AU,vov]
 have hyW:bv 18446744073709551616 y*2^s<18446744073709551616^n:=by
  have e:18446744073709551616=2^(64-s)*2^s:=by rw [<-wS,show 64-s+s=64 by omega]
  have e1:=ju (b:=18446744073709551616) (l:=y) (n-1);rw [show n-1+1=n by omega,yN (by omega),om] at e1;have e2:=mr (A0 gy (n-1));rw [yE,xA (by omega)] at e2;have e3:top<2^(64-s):=Nat.lt_of_mul_lt_mul_right (a:=2^s) (Nat.lt_of_lt_of_eq z3 e);have e4:=yV (2^s) (show top+1<=2^(64-s) from e3);rw [<-e] at e4;have e5:bv 18446744073709551616 y<18446744073709551616^(n-1)*(top+1):=by rw [xI,yf];omega
  have e6:=wK e5 ib;rw [xo] at e6;have e7:=yZ (18446744073709551616^(n-1)) e4;rw [<-xd,show (n-1).succ=n by omega] at e7;exact yU e6 e7
 have aCb:18446744073709551616^(n-1)*2^s<=bv 18446744073709551616 vs:=by
  rw [sY];refine yV _ (xm ?_ jS)
  have:=yZ (18446744073709551616^(n-1)) (show 1<=top by omega)
  omega
 have AA:vs.length=n:=by
  have h1:vs.length<=n:=by
   refine ot Lj sY ?_;exact hyW
  have h2:¬vs.length<n:=fun hh=>by
   have e1:=mr D2;have e2:18446744073709551616^vs.length<=18446744073709551616^(n-1):=xh dW (by omega);have e3:=yV (2^s) jS;rw [xo,<-sY] at e3;have e4:=yZ (18446744073709551616^(n-1)) (show 1<=top*2^s by omega);omega
  omega
 have eZ:0<vs.getD (n-1) 0:=by
  have:=Mz Lj (fun e=>by rw [e] at AA;simp at AA;omega)
  rw [AA] at this;exact yaI this
 obtain ⟨m,hm⟩:∃m,m=la-n+1:=⟨_,rfl⟩;have TH:bv 18446744073709551616 (ou.drop m)<bv 18446744073709551616 vs:=by
  have e1:=Ig (b:=18446744073709551616) ou m (by omega);have e2:=mr gx;rw [<-Lh] at e2;have e3:=wK e2 ib;rw [<-vou] at e3;have e4:18446744073709551616^la=18446744073709551616^m*18446744073709551616^(n-1):=by rw [<-wS];congr 1;omega
  rw [e4,xo] at e3;have e5:18446744073709551616^m*bv 18446744073709551616 (ou.drop m)<18446744073709551616^m*(18446744073709551616^(n-1)*2^s):=by omega
  exact yU (Nat.lt_of_mul_lt_mul_left e5) aCb
 have e1y:(y.length:Int)-1=((n-1:Nat):Int):=by omega
 have aCc:((la:Nat):Int)-(n:Int)=((m-1:Nat):Int):=by omega
 have je:∃tm us qs rs,(us.length=la+1/\qs.length=m/\lo 18446744073709551616 us/\lo 18446744073709551616 qs/\bv 18446744073709551616 us+bv 18446744073709551616 qs*bv 18446744073709551616 vs=bv 18446744073709551616 x*2^s/\bv 18446744073709551616 us<bv 18446744073709551616 vs/\
   rs.length=n/\lo 18446744073709551616 rs/\bv 18446744073709551616 rs*2^s+us.getD 0 0%2^s=bv 18446744073709551616 (us.take n)+18446744073709551616^n*(us.getD n 0%2^s))/\ai tm 0=v/\
   ∃q1 r1,bV q1 (dZ qs)/\bV r1 (dZ rs)/\ak P L 137 [v,w] (.ae [q1,r1]):=by
  unfold ak at ec ev eu evt;unfold ak;rw [aH h.YH];have hfo:=BC (n:=n+1) (l:=ov) (hp:=[]) (by omega) true
  simp only [go_sem,ya,yb,JC,hv.len,hv.ap,hw.len,hw.ap,ec,ew,show ¬(y.length:Int)=1 by omega,e1y,wrapN (n:=n-1) (by omega),eyl,elz,ev,ajq,BC _ (n:=n+1) (l:=ov) (by omega) true,evt,eG.len,eG.shut,eu,AA,<-Lh,aCc,wrapN (n:=m-1) (by omega),show ((m-1:Nat):Int)+1=(m:Int) by omega,wrapN (n:=m) (by omega),Dw (n:=m) _ (by omega)];generalize mJ:D P L (.loop [9,10,11,12,13,14] IK) _=qq;obtain ⟨ex,st,rfl,tm,us,qs,rfl,rfl,t9,t11,t12,t13,Qh,Qi,GG,gqs,aS,aW⟩:=bJ mJ (ayQ (P:=P) (L:=L) h eG D2 AA (by omega) (by omega) (by omega) hm eZ (s:=s) (U0:=bv 18446744073709551616 x*2^s) m) ⟨m,ou,yj m 0,by
   rw [show ((m-1:Nat):Int)=(m:Int)-1 by omega]
   simp only [go_sem,ya,yb,ax,aD eG.pu,aE _ eG.pu]<;>rfl,rfl,yu _,lou,by simp,gou,E2 dW m,fun i _=>CE m i,by rw [E3,tS,yY,vou],TH⟩
  simp only [go_sem,ya,yb,ax,t9,t11,t12,t13];generalize Dy:D P L (.loop [9,11,12,13,96,97] EL) _=qq2;obtain ⟨ex,st,rfl,sE,rs,rfl,rfl,t11,t12,t13,lrs,grs,Pq⟩:=bJ Dy (ayP (P:=P) (L:=L) (qs:=qs) (m:=m) (la:=la+1) (n:=n) z1 Qh GG (by omega) (by omega) n) ⟨0,[],by simp only [go_sem,ya,yb,ax]<;>rfl,by omega,rfl,Nn,by simp [bv]⟩
  have jO:∀(hp:Hp) tm (y:X),au hp 0=some (.cells true true true 1 ((rs++us.drop n).map uc))->dc tm (la+1) (some y)=some n->ff hp (.sl 1) (.ao 0 0 (la+1)) tm none (some y)=some (.ao 0 0 n):=fun hp tm y h1 h2=>adW h1 h2 (by omega) (by omega)
  have B7:=mQ true qs;rw [Qi] at B7;obtain ⟨q1,f1,fm⟩:=BD h.mz B7 (by omega);have eS:(rs++us.drop n).take n=rs:=by rw [List.take_append_of_le_length (by omega),yN (by omega)]
  have Lk:∃e,∀hp:Hp,jN 0 n (some (true,1,(rs++us.drop n).map uc,hp))=some (.aw e n (rs.map uc),hp):=by
   refine ⟨true&&yQ 0 1&&yv n ((rs++us.drop n).map uc).length,fun hp=>?_⟩;simp only [jN,ye,yf,slice,yL,<-tN,eS];rw [ym (by simp;omega)];rfl
  obtain ⟨e,Lk⟩:=Lk;have jn:=mQ e rs;rw [lrs] at jn;obtain ⟨r1,f2,cC⟩:=BD h.mz jn (by omega);unfold ak at f1 f2;refine ⟨[(0,v)],us,qs,rs,⟨Qh,Qi,GG,gqs,aS,aW,lrs,grs,Pq⟩,rfl,q1,r1,fm,cC,?_⟩
  simp only [go_sem,ya,yb,ax,t11,t12,t13,BC _ (n:=m) (l:=qs) Qi true,f1,fm.shut,jO,dM,Lk,f2,cC.shut];exact S8 fm cC _
 obtain ⟨tm,us,qs,rs,⟨Qh,Qi,GG,gqs,aS,aW,lrs,grs,Pq⟩,_,q1,r1,fm,cC,e⟩:=je;have jW:0<bv 18446744073709551616 y:=by
  have:=yZ (18446744073709551616^(n-1)) (show 1<=top by omega)
  have:=Nat.pow_pos (n:=n-1) dW
  omega
 rw [sY] at aS aW;have Kj:bv 18446744073709551616 qs=bv 18446744073709551616 x/bv 18446744073709551616 y:=by
  rw [<-uL _ _ ib,<-aS,yaD,xL,tB (Nat.mul_pos jW ib),wT aW,yY]
 have Qj:bv 18446744073709551616 us=(bv 18446744073709551616 x%bv 18446744073709551616 y)*2^s:=by
  rw [<-vS,<-aS,yaD,xL (bv _ qs),tC,yW aW]
 have j9:=Ig (b:=18446744073709551616) us n (by omega);have iC:bv 18446744073709551616 (us.drop n)=0:=by
  rcases xp (bv 18446744073709551616 (us.drop n)) with h0 | h0
  ·exact h0
  ·have:=yZ (18446744073709551616^n) h0
   omega
 have hun:us.getD n 0=0:=by
  have:=M4 (b:=18446744073709551616) (l:=us) (i:=n) (by omega)
  omega
 rw [iC,xJ,yY] at j9;have B2:us.getD 0 0%2^s=0:=by
  have e1:=M4 (b:=18446744073709551616) (l:=us) (i:=0) (by omega);rw [yL,Qj] at e1;have e2:18446744073709551616=2^s*2^(64-s):=by rw [<-wS,show s+(64-s)=64 by omega]
  have e3:(us.getD 0 0+18446744073709551616*bv 18446744073709551616 (us.drop (0+1)))%2^s=us.getD 0 0%2^s:=by
   conv=>lhs;rw [e2,xo]
   exact Nat.add_mul_mod_self_left _ _ _
  rw [<-e3,<-e1,Nat.mul_mod_left]
 rw [hun,B2,Nat.zero_mod,xJ,yY,yY,<-j9,Qj] at Pq;have ajr:bv 18446744073709551616 rs=bv 18446744073709551616 x%bv 18446744073709551616 y:=Nat.eq_of_mul_eq_mul_right ib Pq;exact ⟨q1,r1,e,⟨_,fm,AX gqs,AW _,by rw [AU,Kj]⟩,⟨_,cC,AX grs,AW _,by rw [AU,ajr]⟩⟩
def ala (h:Wd P L) {v w:AV} {a b K:Nat} (hv:WN v a) (hw:WN w b) (hb:0<b) (ha:a<18446744073709551616^K) (hbK:b<18446744073709551616^K) (hK:K<=90000000000):
  ∃q r,ak P L 137 [v,w] (.ae [q,r])/\WN q (a/b)/\WN r (a%b):=by
 obtain ⟨x,GH,gx,nx,vx⟩:=hv;obtain ⟨y,Qk,gy,ny,vy⟩:=hw;have lx:x.length<=90000000000:=xm (ot nx vx ha) hK;have ly:y.length<=90000000000:=xm (ot ny vy hbK) hK;have ec:=akX h.ak8 GH Qk gx gy nx ny (by omega) (by omega);subst vx;subst vy;by_cases hc:bv 18446744073709551616 x<bv 18446744073709551616 y
 ·have ew:dU (bv 18446744073709551616 x) (bv 18446744073709551616 y)= -1:=by unfold dU;rw [yM hc]
  rw [ew] at ec;refine ⟨.aa,v,?_,⟨[],zi,Nn,rfl,by rw [wT hc];rfl⟩,⟨x,GH,gx,nx,by rw [yW hc]⟩⟩
  unfold ak;rw [aH h.YH];simp only [go_sem,ya,JC,GH.ap,Qk.ap,ec,show (-1:Int)<0 by decide];exact S8 zi GH _
 ·rcases (show y.length=0\/y.length=1\/2<=y.length by omega) with h0 | h1 | h2
  ·rw [List.eq_nil_of_length_eq_zero h0] at hb;simp [bv] at hb
  ·obtain ⟨d,rfl⟩:∃d,y=[d]:=by
    cases y with
    | nil=>simp at h1
    | cons d r=>cases r with
     | nil=>exact ⟨d,rfl⟩
     | cons e r=>simp at h1
   exact ayR h GH Qk gx lx hb (E1.1 gy) ec (by omega)
  ·exact ayS h GH Qk gx gy nx ny lx h2 ec (by omega)
end
end
section
open Go (IntKind)
def kI (v:AV) (n:Int):Prop:=∃w l,v= .agg [.bool (decide (n<0)),w]/\bt w l/\dg l/\nz l/\dv l=n.natAbs
def jv {l:List Int} {k:Nat} (hd:dg l) (hn:nz l) (h:dv l<1000000000^k):l.length<=k:=by
 by_cases h0:l=[]
 ·grind
 ·have h1:=NH hn hd h0;have h2:1000000000^(l.length-1)<1000000000^k:=wR h1 h;have h3:=(Nat.pow_lt_pow_iff_right (show 1<1000000000 by decide)).1 h2;omega
def gL {hp:Hp} {ct id:Nat} {a b x y:AV} (h1:dt a=true) (h2:dt b=true) (p1:bg a=true) (p2:bg b=true):
  iR hp ct id 0 2 [a,b] (some (.cells true true true 2 [x,y]))=some (.ae [],a7 hp id (.cells true true true 2 [a,b]),ct):=by
 rw [zJ (by rfl) (by simp) (by simp [cp,h1,h2])];simp [aG,p1,p2,over]
section
variable {P:aK} {L:Lib}
def cE (neg:Bool) (m:Nat):Int:=if neg=true then -(m:Int) else m
def Aa (h:Has P L 294 Bs) (cX:Has P L 300 lL) (neg:Bool) {v:AV} {l:List Int} (hv:bt v l) (hd:dg l) (hl:l.length<=20000000000):
  ∃r,ak P L 294 [.bool neg,v] r/\kI r (cE neg (dv l)):=by
 obtain ⟨w,e1,hw,ic⟩:=BB cX hv hl;have qh:=zg l;have B8:=Ez l;have nH:=AT hd;have hc:(neg&&decide ((0:Int)<((dY l).length:Nat)))=decide (cE neg (dv l)<0):=by
  unfold cE
  cases neg with
  | false=>simp
  | true=>
   simp only [Bool.true_and,xE];by_cases h0:dY l=[]
   ·rw [h0] at qh ⊢;simp only [dv] at qh;simp [<-qh]
   ·have h1:0<(dY l).length:=List.length_pos_iff.2 h0;have h2:0<dv l:=by
     rw [<-qh];rcases xp (dv (dY l)) with h | h
     ·exact absurd (ahe B8 nH h) h0
     ·exact h
    rw [xn (by omega),xn (by omega)]
 refine ⟨.agg [.bool (decide (cE neg (dv l)<0)),w],?_,w,dY l,rfl,hw,nH,B8,?_⟩
 ·rw [<-hc];unfold ak at e1 ⊢;rw [aH h]
  cases neg with
  | false=>
   simp only [go_sem,ya,yb,yk,Bs,bi,hv.ap,e1,hw.pu,hw.shut,hw.one,hw.cells,gL];rcases hw with ⟨rfl,_⟩ | ⟨e,rfl⟩<;>rfl
  | true=>
   simp only [go_sem,ya,yb,yk,Bs,bi,hv.ap,e1,hw.len,hw.pu,hw.shut,hw.one,hw.cells,gL];rcases hw with ⟨rfl,_⟩ | ⟨e,rfl⟩<;>rfl
 ·rw [qh];unfold cE;split<;>omega
def alb (h:Has P L 298 Oo) (jA:Has P L 294 Bs) (cX:Has P L 300 lL) {v:AV} {n:Int} {K:Nat} (hK:K<=20000000000) (hv:kI v n) (hn:n.natAbs<1000000000^K):∃r,ak P L 298 [v] r/\kI r (-n):=by
 obtain ⟨w,l,rfl,hw,hd,hz,qh⟩:=hv;obtain ⟨r,e1,hr⟩:=Aa jA cX (!decide (n<0)) hw hd (xm (jv hd hz (by rw [qh];exact hn)) hK)
 have e:cE (!decide (n<0)) (dv l)= -n:=by
  rw [qh];unfold cE;by_cases h0:n<0
  ·simp [h0];omega
  ·simp [h0];omega
 rw [e] at hr;obtain ⟨w2,l2,rfl,ie,fF,jR,Ab⟩:=hr;refine ⟨_,?_,w2,l2,rfl,ie,fF,jR,Ab⟩;unfold ak at e1 ⊢;rw [aH h];simp only [go_sem,ya,yb,Oo,bi,hw.pu,hw.ap,hw.one,ie.pu,ie.one,b5,ye,de,e1,gL,cd];rcases ie with ⟨rfl,_⟩ | ⟨e,rfl⟩<;>rfl
end
end
end VE
