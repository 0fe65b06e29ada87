import Derived.Test.YtjemkccfpkgopaaGreatDoorXao
import Derived.Test.YtjemkccfpkgopaaGreatDoorXag
set_option linter.all false
set_option maxRecDepth 100000
open BitVec renaming ofInt→xL,ofInt_natCast→uH,ofNat→uG,toNat_ofNat→vK
open Bool renaming and_eq_true→ye,and_self→xM,false_and→xX,false_eq_true→yN
open Go renaming IntKind→y9
open Int renaming natCast_mul→vj,toNat_natCast→xY
open List renaming append_assoc→xq,append_nil→wD,cons_append→xm,drop→ui,drop_drop→vT,drop_eq_getElem_cons→yU,drop_eq_nil_of_le→xe,drop_left'→uD,drop_zero→yK,filter_cons→yaG,filter_eq_nil_iff→tR,getD_eq_getElem?_getD→y7,length_cons→yz,length_drop→xP,length_nil→yO,length_reverse→yak,length_take→yI,map_append→xu,map_take→tI,mem_append→wj,mem_singleton→xF,nil_append→xG,range'→wv,range'_succ→vZ,replicate→ym,replicate_succ→wC,reverse_cons→yax,set_append_right→tX,take_append_drop→xO,take_length→xx,take_of_length_le→yG,take_succ_eq_append_getElem→yY
open Nat renaming add_comm→yaO,add_mul→wL,add_sub_cancel→tC,add_zero→y8,beq→yu,beq_refl→wV,ble→yE,ble_eq_true_of_le→yo,blt→yR,div_add_mod→xR,div_eq_of_lt→wS,div_le_self→vI,div_lt_iff_lt_mul→we,eq_zero_or_pos→xk,le_of_ble_eq_true→yv,le_of_lt→uU,le_refl→yr,le_trans→xi,lt_of_le_of_lt→wQ,lt_of_lt_of_le→yT,min_eq_left→xn,mod_add_div→tv,mod_eq_of_lt→yW,mod_lt→xy,mul_add→xA,mul_add_div→tx,mul_add_mod→tz,mul_assoc→xj,mul_comm→xE,mul_div_mul_right→uK,mul_le_mul→wZ,mul_le_mul_left→yZ,mul_le_mul_right→yV,mul_lt_mul_of_pos_right→wM,mul_mod_mul_right→vP,mul_one→yh,mul_zero→xB,or_comm→ybH,pos_of_ne_zero→yay,pow_add→wR,pow_le_pow_right→xh,pow_succ→xd,pow_zero→ybx,reduceAdd→yb,reduceEqDiff→ya,reduceLT→yD,reduceLeDiff→yp,reduceMul→xg,two_pow_pos→wO,zero_add→yf,zero_le→ud,zero_mul→tN
namespace VE
section
open Go (IntKind)
section
variable {P:aI} {L:Lib}
def X0 (h:Has P L 302 rV) {v:AV} {l:List Int} (hv:bE v l) (i:Nat):aj P L 302 [v,ab i] (ab (l.getD i 0)):=by
 unfold aj;rw [aH h];by_cases hi:i<l.length
 ·simp only [go_sem,ya,rV,hv.len,show (i:Int)<l.length by omega,hv.aQ hi];simp [y7,List.getElem?_eq_getElem hi]
 ·simp only [go_sem,ya,rV,hv.len,show ¬(i:Int)<l.length by omega];simp [y7,List.getElem?_eq_none (Nat.le_of_not_lt hi)]
def agI {hp:Hp} {e:Bool} {n:Nat} {cs:List AV} {tm:Env} {h:Nat} {x:X} (hx:cY tm n (some x)=some h) (hh:h<=n):
  eV hp (.sl 1) (.aA e n cs) tm none (some x)=some (.aA (e&&yu h n) h (cs.take h)):=by
 simp only [eV,hx,eU];simp [yo hh,slice];rw [show yE 0 h=true from yo (ud _)];rfl
def Bq (h:Has P L 300 lP) {v:AV} {l:List Int} (hv:bE v l) (hl:l.length<=20000000000):∃r,aj P L 300 [v] r/\bE r (dV l)/\shut r=r:=by
 rcases hv with ⟨rfl,h0⟩ | ⟨e,rfl⟩
 ·have:l=[]:=by simpa using h0
  subst this;refine ⟨.aa,?_,rq,rfl⟩;unfold aj;rw [aH h];simp only [go_sem,ya,lP,MU,CH,ax,show ¬(0:Int)<0 by decide]
 ·have key:=fM (P:=P) (L:=L) (live:=[0]) (a:=CH)
   (I:=fun k st=>∃(i:Nat) (e:Bool),st=⟨[(0,.aA e i ((l.take i).map ab))],[],0,0⟩/\i<=l.length/\i=k/\dV (l.take i)=dV l)
   (Q:=fun ex st=>∃tm ct,st=⟨tm,[],ct,0⟩/\ex= .exit 0/\∃i e,ai tm 0= .aA e i ((l.take i).map ab)/\i<=l.length/\l.take i=dV l) ?_
  ·have hlen:(l.map ab).length=l.length:=by simp
   rw [hlen];have iY:∃i e',aj P L 300 [.aA e l.length (l.map ab)] (.aA e' i ((l.take i).map ab))/\i<=l.length/\l.take i=dV l:=by
    unfold aj;rw [aH h];simp only [go_sem,lP];generalize hq:D P L (.loop [0] CH) _=q;obtain ⟨ex,st,rfl,tm,ct,rfl,rfl,i,e',h2,h3,h4⟩:=bQ hq (key l.length) ⟨l.length,e,by simp only [go_sem,ya,ax,xx],yr _,rfl,by rw [xx]⟩;simp only [go_sem,ax,h2];exact ⟨i,e',rfl,h3,h4⟩
   obtain ⟨i,e',g1,g2,g3⟩:=iY;refine ⟨_,g1,?_,rfl⟩;rw [<-g3]
   have:=lE e' (l.take i)
   rwa [yI,xn g2] at this
  ·rintro k st ⟨i,e,rfl,hi,rfl,ht⟩
   cases i with
   | zero=>
    right
    simp only [go_sem,ya,CH,show ¬(0:Int)<((0:Nat):Int) by omega];exact ⟨_,_,rfl,by simp,_,_,rfl,rfl,0,e,by simp only [go_sem,ya],ud _,by simpa [dV] using ht⟩
   | succ i=>
    have KV:i<l.length:=by omega
    have eF:l.take (i+1)=l.take i++[l[i]]:=yY KV;have ik:ui i ((l.take (i+1)).map ab)=[AV.int .i64 l[i]]:=by
     rw [eF,xu,uD (by simp;omega)];rfl
    have oA:iN 1 i (.aA e (i+1) ((l.take (i+1)).map ab))=some (.b5 [AV.int .i64 l[i]]):=by
     rw [RS e _ (by omega),yh,ik]
    by_cases h0:l[i]=0
    ·left
     have lU:∀tm x,cY tm (i+1) (some x)=some i->eV [] (.sl 1) (.aA e (i+1) ((l.take (i+1)).map ab)) tm none (some x)=some (.aA (e&&yu i (i+1)) i ((l.take i).map ab)):=fun tm x hx=>by
      rw [agI hx (by omega),<-tI,List.take_take,xn (by omega)]
     simp only [go_sem,ya,CH,show (0:Int)<((i+1:Nat):Int) by omega,show ((i+1:Nat):Int)-1=(i:Int) by omega,wrapN (n:=i) (by omega),oA,h0,lU,dO];refine ⟨_,i,rfl,by omega,i,_,by simp only [go_sem,ax]<;>rfl,by omega,rfl,?_⟩
     rw [<-ht,eF,h0,HF]
    ·right
     simp only [go_sem,ya,CH,show (0:Int)<((i+1:Nat):Int) by omega,show ((i+1:Nat):Int)-1=(i:Int) by omega,wrapN (n:=i) (by omega),oA,h0];refine ⟨_,_,rfl,by simp,_,_,rfl,rfl,i+1,e,by simp only [go_sem,ya],by omega,?_⟩;rw [<-ht,eF,LD h0]
end
end
section
open Go (IntKind)
abbrev uc (n:Nat):AV:= .int .u64 (n:Int)
def bU (v:AV) (l:List Nat):Prop:=cR v (l.map uc)
section
variable {v:AV} {l:List Nat}
def bU.len (h:bU v l) {hp:Hp}:fP hp 1 v=some (.int .i64 (l.length:Nat)):=by
 have:=cR.len (hp:=hp) h
 grind
def bU.pu (h:bU v l):a6 v=true:=cR.pu h
def bU.ak (h:bU v l) (n:Nat) {hp:Hp}:freeze (n+1) hp v=some (v,hp):=cR.ak h n
def bU.shut (h:bU v l):VE.shut v=v:=cR.shut h
def bU.bH (h:bU v l):VE.bH v=v:=cR.bH h
def bU.gk (h:bU v l) {hp:Hp}:result hp v=some v:=cR.gk h
def bU.one (h:bU v l):dh v=true:=cR.one h
def bU.aQ (h:bU v l) {i:Nat} (hi:i<l.length):iN 1 i v=some (.b5 (uc (l.getD i 0)::(l.map uc).drop (i+1))):=by
 have:=cR.aQ h (i:=i) (by simpa using hi)
 grind
def mW (e:Bool) (l:List Nat):bU (.aA e l.length (l.map uc)) l:=by
 have:=Ih e (l.map uc)
 rwa [List.length_map] at this
def sX:bU .aa []:=rq
end
def ku {hp:Hp} {ct id o:Nat} {v:Nat} {ex:Bool} {l:List Nat} (h:o<l.length):ji hp ct id o 1 [.int .u64 (v:Int)] (some (.cells true true ex 1 (l.map uc)))=some (.ae [],bc hp id (.cells true true ex 1 ((l.set o v).map uc)),ct):=by
 rw [A8 (by rfl) (by simp;omega) (by rfl)]
 have:over o [uc v] (l.map uc)=(l.set o v).map uc:=by
  simp only [over,yz,yO,yf];rw [List.map_set,List.set_eq_take_append_cons_drop,yQ (by simpa using h)]
  simp
 rw [this];rfl
def zy {l:List Nat} {o:Nat} (h:o<l.length):ui o (l.map uc)=uc (l.getD o 0)::ui (o+1) (l.map uc):=by
 rw [yU (by simpa using h)]
 grind
def auw (n:Nat):(ym n [AV.int .u64 0]).flatten=(ym n 0).map uc:=by simp_all
def Dd (ct:Nat) {n:Nat} (h:n<=100000000000):qH ct 1 8 [.int .u64 0] (some n) (some n)=some (.aB ct 0 n,.cells true true true 1 ((ym n 0).map uc)):=by
 rw [CL (sz:=1) (by omega) (by omega) (by rfl) (by rfl),auw];rfl
def Br (hp:Hp) {n:Nat} {l:List Nat} (h:l.length=n) (ex:Bool):iX 0 n (some (ex,1,l.map uc,hp))=some (.aA ex n (l.map uc),hp):=lC ex (by simp [h]) (by decide)
def aiR {n:Nat} (h:n<18446744073709551616):IntKind.wrap .u64 (n:Int)=n:=az4 (by omega) (by omega)
section
variable {P:aI} {L:Lib} {f:cA}
def kJ {a b:Nat} (h:a<b):yR a b=true:=by simp_all
def CM (h:L.pure 171=some nO) {x y c:Nat} (hx:x<18446744073709551616) (hy:y<18446744073709551616) (hc:c<=1):
  bO P L f 171 [uc x,uc y,uc c]=some (.ae [uc ((x+y+c)%18446744073709551616),uc ((x+y+c)/18446744073709551616)]):=by
 rw [jo h];show (bif yE c 1&&(yR x 18446744073709551616&&yR y 18446744073709551616) then _ else none)=_
 rw [yo hc,kJ hx,kJ hy];rfl
def Sr (h:L.pure 173=some AQ) {x y c:Nat} (hx:x<18446744073709551616) (hy:y<18446744073709551616) (hc:c<=1):
  bO P L f 173 [uc x,uc y,uc c]=some (.ae [uc ((x+18446744073709551616*2-y-c)%18446744073709551616),uc (if y+c<=x then 0 else 1)]):=by
 rw [jo h];show (bif yE c 1&&(yR x 18446744073709551616&&yR y 18446744073709551616) then _ else none)=_
 rw [yo hc,kJ hx,kJ hy];by_cases hh:y+c<=x
 ·rw [yo hh,yQ hh];rfl
 ·have:yE (y+c) x=false:=by
   cases hq:yE (y+c) x with
   | false=>rfl
   | true=>exact absurd (yv hq) hh
  grind
def MW (h:L.pure 143=some rG) {x y:Nat} (hx:x<18446744073709551616) (hy:y<18446744073709551616):
  bO P L f 143 [uc x,uc y]=some (.ae [uc (x*y/18446744073709551616),uc (x*y%18446744073709551616)]):=by
 rw [jo h];show (bif yR x 18446744073709551616&&yR y 18446744073709551616 then _ else none)=_
 rw [kJ hx,kJ hy];rfl
def asl {hp:Hp} {tm:Env} {x:X} (hx:cY tm 0 (some x)=some 0):eV hp (.sl 1) .aa tm none (some x)=some .aa:=by
 simp only [eV,hx,eU]
def Bs (h:Has P L 166 Bh) {v:AV} {l:List Nat} (hv:bU v l) (hl:l.length<=100000000000):∃r,aj P L 166 [v] r/\bU r (dW l):=by
 rcases hv with ⟨rfl,h0⟩ | ⟨e,rfl⟩
 ·have:l=[]:=by simpa using h0
  subst this;refine ⟨.aa,?_,rq⟩;unfold aj;rw [aH h];simp only [go_sem,ya,Bh,MU,Cz,ax,show ¬(0:Int)<0 by decide,asl,dO]
 ·have key:=fM (P:=P) (L:=L) (live:=[0,3]) (a:=Cz)
   (I:=fun k st=>∃(i:Nat),st=⟨[(0,.aA e l.length (l.map uc)),(3,ab i)],[],0,0⟩/\i<=l.length/\i=k/\dW (l.take i)=dW l)
   (Q:=fun ex st=>∃tm ct,st=⟨tm,[],ct,0⟩/\ex= .exit 0/\∃i:Nat,ai tm 0= .aA e l.length (l.map uc)/\ai tm 3=ab i/\i<=l.length/\l.take i=dW l) ?_
  ·have hlen:(l.map uc).length=l.length:=by simp
   rw [hlen];have iY:∃i e',aj P L 166 [.aA e l.length (l.map uc)] (.aA e' i ((l.take i).map uc))/\i<=l.length/\l.take i=dW l:=by
    unfold aj;rw [aH h];simp only [go_sem,ya,Bh];generalize hq:D P L (.loop [0,3] Cz) _=q;obtain ⟨ex,st,rfl,tm,ct,rfl,rfl,i,h2,h3,h4,h5⟩:=bQ hq (key l.length) ⟨l.length,by simp only [go_sem,ya,ax],yr _,rfl,by rw [xx]⟩;have lU:∀tm x,cY tm l.length (some x)=some i->eV [] (.sl 1) (.aA e l.length (l.map uc)) tm none (some x)=some (.aA (e&&yu i l.length) i ((l.map uc).take i)):=fun tm x hx=>agI hx h4
    simp only [go_sem,ya,ax,h2,h3,lU,dO];exact ⟨i,_,by rw [tI],h4,h5⟩
   obtain ⟨i,e',g1,g2,g3⟩:=iY;refine ⟨_,g1,?_⟩;rw [<-g3]
   have:=mW e' (l.take i)
   rwa [yI,xn g2] at this
  ·rintro k st ⟨i,rfl,hi,rfl,ht⟩
   cases i with
   | zero=>
    right
    simp only [go_sem,ya,Cz,show ¬(0:Int)<((0:Nat):Int) by omega];exact ⟨_,_,rfl,by simp,_,_,rfl,rfl,0,by simp only [go_sem,ya],by simp only [go_sem,ya],ud _,by simpa [dW] using ht⟩
   | succ i=>
    have KV:i<l.length:=by omega
    have eF:l.take (i+1)=l.take i++[l[i]]:=yY KV;have oA:=(mW e l).aQ KV;rw [<-gd KV] at oA;by_cases h0:l[i]=0
    ·left
     simp only [go_sem,ya,Cz,show (0:Int)<((i+1:Nat):Int) by omega,show ((i+1:Nat):Int)-1=(i:Int) by omega,wrapN (n:=i) (by omega),oA,show ((l[i]:Nat):Int)=0 by omega];refine ⟨_,i,rfl,by omega,i,by simp only [go_sem,ya,ax],by omega,rfl,?_⟩;rw [<-ht,eF,h0,LF]
    ·right
     simp only [go_sem,ya,Cz,show (0:Int)<((i+1:Nat):Int) by omega,show ((i+1:Nat):Int)-1=(i:Int) by omega,wrapN (n:=i) (by omega),oA,show ¬((l[i]:Nat):Int)=0 by omega];refine ⟨_,_,rfl,by simp,_,_,rfl,rfl,i+1,by simp only [go_sem,ya],by simp only [go_sem,ya],by omega,?_⟩;rw [<-ht,eF,D2 h0]
end
end
section
open Go (IntKind)
def LI (p b s:Nat):p*(s%b)+p*b*(s/b)=p*s:=by
 rw [xj,<-xA,tv]
def aqg {b:Nat} {x y out:List Nat} {i c:Nat} (hi:i<out.length) (hz:out.getD i 0=0) (hv:bv b out+b^i*c=bv b (x.take i)+bv b (y.take i)):
  bv b (out.set i ((x.getD i 0+y.getD i 0+c)%b))+b^(i+1)*((x.getD i 0+y.getD i 0+c)/b)=bv b (x.take (i+1))+bv b (y.take (i+1)):=by
 have h1:=nQ (b:=b) (x:=(x.getD i 0+y.getD i 0+c)%b) hi;have h2:=LI (b^i) b (x.getD i 0+y.getD i 0+c);rw [hz,xB,y8] at h1;rw [js,js,xd,h1]
 grind
def aqh {b:Nat} {x y out:List Nat} {i c z c':Nat} (hi:i<out.length) (hz:out.getD i 0=0) (hs:z+y.getD i 0+c=x.getD i 0+b*c') (hv:bv b out+bv b (y.take i)=bv b (x.take i)+b^i*c):
  bv b (out.set i z)+bv b (y.take (i+1))=bv b (x.take (i+1))+b^(i+1)*c':=by
 have h1:=nQ (b:=b) (x:=z) hi;rw [hz,xB,y8] at h1;rw [js,js,xd,h1]
 grind
section
variable {P:aI} {L:Lib}
def aks (h:Has P L 158 Fa) {v w:AV} {x y:List Nat} (hv:bU v x) (hw:bU w y) (hx:lo 18446744073709551616 x) (hy:lo 18446744073709551616 y) (nx:gm x) (ny:gm y) (lx:x.length<=100000000000) (ly:y.length<=100000000000):
  aj P L 158 [v,w] (ab (dR (bv 18446744073709551616 x) (bv 18446744073709551616 y))):=by
 unfold aj;rw [aH h];by_cases hlen:x.length=y.length
 ·have key:=fM (P:=P) (L:=L) (live:=[0,1,5]) (a:=Cy)
   (I:=fun k st=>∃j:Nat,st=⟨[(0,v),(1,w),(5,ab ((j:Int)-1))],[],0,0⟩/\j<=x.length/\j=k/\x.drop j=y.drop j)
   (Q:=fun ex st=>∃tm ct,st=⟨tm,[],ct,0⟩/\((ex= .ret/\ai tm 4=ab (dR (bv 18446744073709551616 x) (bv 18446744073709551616 y)))\/(ex= .exit 0/\x=y))) ?_
  ·simp only [go_sem,ya,Fa,hv.len,hw.len,show (x.length:Int)=y.length by omega];generalize hq:D P L (.loop [0,1,5] Cy) _=q;obtain ⟨ex,st,rfl,tm,ct,rfl,h2⟩:=bQ hq (key x.length) ⟨x.length,by
    rw [wrap64 (by omega) (by omega),hlen]
    simp only [go_sem,ya,ax,au hv.pu,ay _ hv.pu,au hw.pu,ay _ hw.pu]<;>rfl,yr _,rfl,by rw [xe (yr _),xe (by omega)]⟩
   rcases h2 with ⟨rfl,h2⟩ | ⟨rfl,h2⟩
   ·simp only [go_sem,h2]
   ·simp only [go_sem,ax];subst h2;simp [dR]
  ·rintro k st ⟨j,rfl,hj,rfl,he⟩
   cases j with
   | zero=>
    right
    simp only [go_sem,ya,Cy,show ¬(0:Int)<=((0:Nat):Int)-1 by omega];exact ⟨_,_,rfl,by simp,_,_,rfl,.inr ⟨rfl,by simpa using he⟩⟩
   | succ i=>
    have h1:i<x.length:=by omega
    have h2:i<y.length:=by omega
    have F2:=agu hx h1 h2 he;have aX:=agu hy h2 h1 he.symm;by_cases c0:x.getD i 0=y.getD i 0
    ·left
     simp only [go_sem,ya,Cy,show ((i+1:Nat):Int)-1=(i:Int) by omega,show (0:Int)<=(i:Int) by omega,hv.aQ h1,hw.aQ h2,c0];refine ⟨_,i,rfl,by omega,i,?_,by omega,rfl,?_⟩
     ·rw [wrap64 (by omega) (by omega)];simp only [go_sem,ya,ax,au hv.pu,ay _ hv.pu,au hw.pu,ay _ hw.pu]<;>rfl
     ·rw [yU h1,yU h2,he,gd h1,gd h2,c0]
    ·by_cases c1:x.getD i 0<y.getD i 0
     ·right
      simp only [go_sem,ya,Cy,show ((i+1:Nat):Int)-1=(i:Int) by omega,show (0:Int)<=(i:Int) by omega,hv.aQ h1,hw.aQ h2,show ¬((x.getD i 0:Nat):Int)=(y.getD i 0:Nat) by omega,show ((x.getD i 0:Nat):Int)<(y.getD i 0:Nat) by omega];refine ⟨_,_,rfl,by simp,_,_,rfl,.inl ⟨rfl,?_⟩⟩;simp only [go_sem];unfold dR;rw [yQ (F2 c1)]
     ·right
      simp only [go_sem,ya,Cy,show ((i+1:Nat):Int)-1=(i:Int) by omega,show (0:Int)<=(i:Int) by omega,hv.aQ h1,hw.aQ h2,show ¬((x.getD i 0:Nat):Int)=(y.getD i 0:Nat) by omega,show ¬((x.getD i 0:Nat):Int)<(y.getD i 0:Nat) by omega];refine ⟨_,_,rfl,by simp,_,_,rfl,.inl ⟨rfl,?_⟩⟩;simp only [go_sem];unfold dR;rw [yB (by omega),yQ (by omega)]
 ·by_cases c1:x.length<y.length
  ·have:=Mz (b:=18446744073709551616) (by decide) hx ny c1
   simp only [go_sem,ya,Fa,hv.len,hw.len,show ¬(x.length:Int)=y.length by omega,show (x.length:Int)<y.length by omega];unfold dR;rw [yQ this]
  ·have:=Mz (b:=18446744073709551616) (by decide) hy nx (show y.length<x.length by omega)
   simp only [go_sem,ya,Fa,hv.len,hw.len,show ¬(x.length:Int)=y.length by omega,show ¬(x.length:Int)<y.length by omega];unfold dR;rw [yB (by omega),yQ this]
def ah4 (gi:L.pure 171=some nO) {v w:AV} {x y:List Nat} (hv:bU v x) (hw:bU w y) (hx:lo 18446744073709551616 x) (hy:lo 18446744073709551616 y) (lx:x.length<=99999999999) (ly:y.length<=x.length) {n:Nat} (hn:n=x.length+1):
  ∀k s,(∃(i c:Nat) (out:List Nat),aS [0,1,5,6,21,22] s=⟨[(0,v),(1,w),(5,.aB 0 0 n),(6,uc c),(21,ab x.length),(22,ab i)],[(0,.cells true true true 1 (out.map uc))],1,0⟩/\i+k=x.length/\out.length=n/\c<=1/\lo 18446744073709551616 out/\
    bv 18446744073709551616 out+18446744073709551616^i*c=bv 18446744073709551616 (x.take i)+bv 18446744073709551616 (y.take i)/\(∀m,i<=m->out.getD m 0=0))->
   ∃ex s',D P L (.loop [0,1,5,6,21,22] Cx) s=some (ex,s')/\∃tm c out,s'=⟨tm,[(0,.cells true true true 1 (out.map uc))],1,0⟩/\ex= .exit 0/\ai tm 0=v/\ai tm 5= .aB 0 0 n/\ai tm 6=uc c/\out.length=n/\c<=1/\lo 18446744073709551616 out/\
    bv 18446744073709551616 out+18446744073709551616^x.length*c=bv 18446744073709551616 x+bv 18446744073709551616 y/\out.getD x.length 0=0:=by
 intro dq sq;generalize bB:aS [0,1,5,6,21,22] sq=s0;revert bB s0 sq dq;apply dI;rintro k s ⟨i,c,out,rfl,hk,hlen,hc,bi,aP,fV⟩;by_cases hi:i<x.length
 ·left
  have hz:=fV i (yr _);have kK:=aqg (x:=x) (y:=y) (show i<out.length by omega) hz aP;have gx:=gE (show 0<18446744073709551616 by decide) hx i;have gy:=gE (show 0<18446744073709551616 by decide) hy i;have e1:=CM (P:=P) (f:=D P L) gi gx gy hc;have ex:=hv.aQ hi;generalize x.getD i 0=p at*
  by_cases hj:i<y.length
  ·have ey:=hw.aQ hj;generalize y.getD i 0=q at*
   simp only [go_sem,ya,yh,Cx,hw.len,show (i:Int)<x.length by omega,show (i:Int)<y.length by omega,ex,ey,e1,cM 0 0 (show i<n by omega),yf,ku (l:=out) (o:=i) (by omega)]
   refine ⟨_,k-1,rfl,by omega,i+1,(p+q+c)/18446744073709551616,_,?_,by omega,by simp [hlen],by omega,mr bi (x:=(p+q+c)%18446744073709551616) (i:=i) (by omega),kK,fun m hm=>?_⟩
   ·rw [wrap64 (by omega) (by omega)];simp only [go_sem,ya,yb,ax,au hv.pu,ay _ hv.pu,au hw.pu,ay _ hw.pu]<;>rfl
   ·rw [oY (by omega)];exact fV m (by omega)
  ·have iH:y.getD i 0=0:=Sm (by omega);rw [iH] at kK e1;rw [show (uc 0)=AV.int .u64 0 from rfl] at e1
   simp only [go_sem,ya,yh,Cx,hw.len,show (i:Int)<x.length by omega,show ¬(i:Int)<y.length by omega,ex,e1,cM 0 0 (show i<n by omega),yf,ku (l:=out) (o:=i) (by omega)]
   refine ⟨_,k-1,rfl,by omega,i+1,(p+0+c)/18446744073709551616,_,?_,by omega,by simp [hlen],by omega,mr bi (x:=(p+0+c)%18446744073709551616) (i:=i) (by omega),kK,fun m hm=>?_⟩
   ·rw [wrap64 (by omega) (by omega)];simp only [go_sem,ya,yb,ax,au hv.pu,ay _ hv.pu,au hw.pu,ay _ hw.pu]<;>rfl
   ·rw [oY (by omega)];exact fV m (by omega)
 ·right
  have:i=x.length:=by omega
  subst this;rw [xx,yG ly] at aP;simp only [go_sem,ya,Cx,show ¬(x.length:Int)<x.length by omega];exact ⟨_,_,rfl,by simp,_,c,out,rfl,rfl,by simp only [go_sem,ya],by simp only [go_sem,ya],by simp only [go_sem,ya],hlen,hc,bi,aP,fV _ (yr _)⟩
def aBf (h:Has P L 157 Jq) (mD:Has P L 166 Bh) (gi:L.pure 171=some nO) {v w:AV} {x y:List Nat} (hv:bU v x) (hw:bU w y) (hx:lo 18446744073709551616 x) (hy:lo 18446744073709551616 y) (lx:x.length<=99999999999) (ly:y.length<=99999999999):
  ∃r out,aj P L 157 [v,w] r/\bU r out/\lo 18446744073709551616 out/\gm out/\bv 18446744073709551616 out=bv 18446744073709551616 x+bv 18446744073709551616 y:=by
 have fin:∀{x y o:List Nat} {n c:Nat},n=x.length+1->x.length<=99999999999->o.length=n->c<=1->lo 18446744073709551616 o->bv 18446744073709551616 o+18446744073709551616^x.length*c=bv 18446744073709551616 x+bv 18446744073709551616 y->o.getD x.length 0=0->
   ∃r,bO P L (D P L) 166 [.aA true n ((o.set x.length c).map uc)]=some r/\bU r (dW (o.set x.length c))/\lo 18446744073709551616 (dW (o.set x.length c))/\gm (dW (o.set x.length c))/\bv 18446744073709551616 (dW (o.set x.length c))=bv 18446744073709551616 x+bv 18446744073709551616 y:=by
  intro x y o n c hn lx hlen hc bi aP hz;have bc:=nQ (b:=18446744073709551616) (l:=o) (i:=x.length) (x:=c) (by omega);rw [hz,xB,y8,aP] at bc;have aBg:lo 18446744073709551616 (o.set x.length c):=mr bi (by omega);have hf:=mW true (o.set x.length c);rw [List.length_set,hlen] at hf;obtain ⟨r,e1,hr⟩:=Bs mD hf (by simp;omega);exact ⟨r,e1,hr,AH aBg,AG _,by rw [AF];exact bc⟩
 by_cases hl:x.length<y.length
 ·obtain ⟨n,hn⟩:∃n,n=y.length+1:=⟨_,rfl⟩;unfold aj;rw [aH h]
  simp only [go_sem,ya,yb,Jq,hv.len,hw.len,show (x.length:Int)<y.length by omega,wrapN (n:=n) (by omega),show (y.length:Int)+1=((y.length+1:Nat):Int) from rfl,<-hn,Dd (n:=n) _ (by omega)];generalize hq:D P L (.loop [0,1,5,6,21,22] Cx) _=q;obtain ⟨ex,s,rfl,tm,c,o,rfl,rfl,t0,t5,t6,hlen,hc,bi,aP,hz⟩:=bQ hq (ah4 (P:=P) (L:=L) gi hw hv hy hx ly (by omega) hn y.length)
   ⟨0,0,ym n 0,by simp only [go_sem,ya,yb,ax,au hv.pu,ay _ hv.pu,au hw.pu,ay _ hw.pu]<;>rfl,by omega,by simp,by omega,EL (by decide) n,by rw [EM];simp [bv],fun m _=>Cq n m⟩
  obtain ⟨r,e1,hr,f1,f2,f3⟩:=fin hn ly hlen hc bi aP hz;refine ⟨r,_,?_,hr,f1,f2,by rw [f3];omega⟩
  simp only [go_sem,ya,yh,ax,au hw.pu,ay _ hw.pu,hw.len,t0,t5,t6,cM 0 0 (show y.length<n by omega),yf,ku (l:=o) (o:=y.length) (by omega)]
  simp only [go_sem,Br _ (n:=n) (l:=o.set y.length c) (by simp [hlen]) true,e1,hr.shut,hr.gk]
 ·obtain ⟨n,hn⟩:∃n,n=x.length+1:=⟨_,rfl⟩;unfold aj;rw [aH h]
  simp only [go_sem,ya,yb,Jq,hv.len,hw.len,show ¬(x.length:Int)<y.length by omega,wrapN (n:=n) (by omega),show (x.length:Int)+1=((x.length+1:Nat):Int) from rfl,<-hn,Dd (n:=n) _ (by omega)];generalize hq:D P L (.loop [0,1,5,6,21,22] Cx) _=q;obtain ⟨ex,s,rfl,tm,c,o,rfl,rfl,t0,t5,t6,hlen,hc,bi,aP,hz⟩:=bQ hq (ah4 (P:=P) (L:=L) gi hv hw hx hy lx (by omega) hn x.length)
   ⟨0,0,ym n 0,by simp only [go_sem,ya,yb,ax,au hv.pu,ay _ hv.pu,au hw.pu,ay _ hw.pu]<;>rfl,by omega,by simp,by omega,EL (by decide) n,by rw [EM];simp [bv],fun m _=>Cq n m⟩
  obtain ⟨r,e1,hr,f1,f2,f3⟩:=fin hn lx hlen hc bi aP hz;refine ⟨r,_,?_,hr,f1,f2,f3⟩
  simp only [go_sem,ya,yh,ax,au hv.pu,ay _ hv.pu,hv.len,t0,t5,t6,cM 0 0 (show x.length<n by omega),yf,ku (l:=o) (o:=x.length) (by omega)]
  simp only [go_sem,Br _ (n:=n) (l:=o.set x.length c) (by simp [hlen]) true,e1,hr.shut,hr.gk]
end
end
section
open Go (IntKind)
def aqi {b:Nat} {out:List Nat} {p j c t o x y Y bo ba:Nat} (ho:o=out.getD j 0) (hj:j<out.length) (ht:t=o+x*y+c) (hv:bo+p*c=ba+p*(x*Y)) (hb:bo=bv b out) (hp:p=b^j):
  bv b (out.set j (t%b))+p*b*(t/b)=ba+p*(x*(Y+0))+p*(x*y):=by
 have h1:=nQ (b:=b) (x:=t%b) hj;have h2:=LI p b t
 grind
section
variable {P:aI} {L:Lib}
def Rx {x y c:Nat} (hx:x<18446744073709551616) (hy:y<18446744073709551616) (hc:c<=1):
  (x+18446744073709551616*2-y-c)%18446744073709551616+y+c=x+18446744073709551616*(if y+c<=x then 0 else 1):=by grind
def ax2 (rZ:L.pure 173=some AQ) {v w:AV} {x y:List Nat} (hv:bU v x) (hw:bU w y) (hx:lo 18446744073709551616 x) (hy:lo 18446744073709551616 y) (lx:x.length<=99999999999) (ly:y.length<=x.length) (hle:bv 18446744073709551616 y<=bv 18446744073709551616 x) {n:Nat} (hn:n=x.length):
  ∀k s,(∃(i c:Nat) (out:List Nat),aS [0,1,5,6,13,14] s=⟨[(0,v),(1,w),(5,.aB 0 0 n),(6,uc c),(13,ab x.length),(14,ab i)],[(0,.cells true true true 1 (out.map uc))],1,0⟩/\i+k=x.length/\out.length=n/\c<=1/\lo 18446744073709551616 out/\
    bv 18446744073709551616 out+bv 18446744073709551616 (y.take i)=bv 18446744073709551616 (x.take i)+18446744073709551616^i*c/\(∀m,i<=m->out.getD m 0=0))->
   ∃ex s',D P L (.loop [0,1,5,6,13,14] Et) s=some (ex,s')/\∃tm out,s'=⟨tm,[(0,.cells true true true 1 (out.map uc))],1,0⟩/\ex= .exit 0/\ai tm 5= .aB 0 0 n/\out.length=n/\lo 18446744073709551616 out/\
    bv 18446744073709551616 out+bv 18446744073709551616 y=bv 18446744073709551616 x:=by
 intro dq sq;generalize bB:aS [0,1,5,6,13,14] sq=s0;revert bB s0 sq dq;apply dI;rintro k s ⟨i,c,out,rfl,hk,hlen,hc,bi,aP,fV⟩;by_cases hi:i<x.length
 ·left
  have hz:=fV i (yr _);have gx:=gE (show 0<18446744073709551616 by decide) hx i;have gy:=gE (show 0<18446744073709551616 by decide) hy i;have qX:=Rx gx gy hc;have kK:=aqh (x:=x) (y:=y) (show i<out.length by omega) hz qX aP;have e1:=Sr (P:=P) (f:=D P L) rZ gx gy hc;have ex:=hv.aQ hi;generalize x.getD i 0=p at*
  have kY:(if y.getD i 0+c<=p then 0 else 1)<=1:=by split<;>omega
  by_cases hj:i<y.length
  ·have ey:=hw.aQ hj;generalize y.getD i 0=q at*
   generalize (if q+c<=p then 0 else 1)=c1 at*
   simp only [go_sem,ya,xg,yh,Et,hw.len,show (i:Int)<x.length by omega,show (i:Int)<y.length by omega,ex,ey,e1,cM 0 0 (show i<n by omega),yf,ku (l:=out) (o:=i) (by omega)]
   refine ⟨_,k-1,rfl,by omega,i+1,c1,_,?_,by omega,by simp [hlen],kY,mr bi (x:=(p+18446744073709551616*2-q-c)%18446744073709551616) (i:=i) (by omega),kK,fun m hm=>?_⟩
   ·rw [wrap64 (by omega) (by omega)];simp only [go_sem,ya,yb,xg,ax,au hv.pu,ay _ hv.pu,au hw.pu,ay _ hw.pu]<;>rfl
   ·rw [oY (by omega)];exact fV m (by omega)
  ·have iH:y.getD i 0=0:=Sm (by omega);rw [iH] at kK e1 kY;rw [show (uc 0)=AV.int .u64 0 from rfl] at e1;generalize (if 0+c<=p then 0 else 1)=c1 at*
   simp only [go_sem,ya,xg,yh,Et,hw.len,show (i:Int)<x.length by omega,show ¬(i:Int)<y.length by omega,ex,e1,cM 0 0 (show i<n by omega),yf,ku (l:=out) (o:=i) (by omega)]
   refine ⟨_,k-1,rfl,by omega,i+1,c1,_,?_,by omega,by simp [hlen],kY,mr bi (x:=(p+18446744073709551616*2-0-c)%18446744073709551616) (i:=i) (by omega),kK,fun m hm=>?_⟩
   ·rw [wrap64 (by omega) (by omega)];simp only [go_sem,ya,yb,xg,ax,au hv.pu,ay _ hv.pu,au hw.pu,ay _ hw.pu]<;>rfl
   ·rw [oY (by omega)];exact fV m (by omega)
 ·right
  have:i=x.length:=by omega
  subst this;rw [xx,yG ly] at aP;have aX:=mw bi;rw [hlen,hn] at aX;simp only [go_sem,ya,Et,show ¬(x.length:Int)<x.length by omega];refine ⟨_,_,rfl,by simp,_,out,rfl,rfl,by simp only [go_sem,ya],hlen,bi,?_⟩;rcases (show c=0\/c=1 by omega) with rfl | rfl
  ·omega
  ·omega
def akt (h:Has P L 159 NM) (mD:Has P L 166 Bh) (rZ:L.pure 173=some AQ) {v w:AV} {x y:List Nat} (hv:bU v x) (hw:bU w y) (hx:lo 18446744073709551616 x) (hy:lo 18446744073709551616 y) (ny:gm y) (lx:x.length<=99999999999) (hle:bv 18446744073709551616 y<=bv 18446744073709551616 x):
  ∃r out,aj P L 159 [v,w] r/\bU r out/\lo 18446744073709551616 out/\gm out/\bv 18446744073709551616 out+bv 18446744073709551616 y=bv 18446744073709551616 x:=by
 have ly:y.length<=x.length:=by
  by_cases hh:x.length<y.length
  ·have:=Mz (b:=18446744073709551616) (by decide) hx ny hh
   omega
  ·omega
 obtain ⟨n,hn⟩:∃n,n=x.length:=⟨_,rfl⟩;unfold aj;rw [aH h]
 simp only [go_sem,ya,yb,NM,hv.len,<-hn,Dd (n:=n) _ (by omega)];generalize hq:D P L (.loop [0,1,5,6,13,14] Et) _=q;obtain ⟨ex,s,rfl,tm,o,rfl,rfl,t5,hlen,bi,aP⟩:=bQ hq (ax2 (P:=P) (L:=L) rZ hv hw hx hy lx ly hle hn x.length)
  ⟨0,0,ym n 0,by rw [hn];simp only [go_sem,ya,yb,ax,au hv.pu,ay _ hv.pu,au hw.pu,ay _ hw.pu]<;>rfl,by omega,by simp,by omega,EL (by decide) n,by rw [EM];simp [bv],fun m _=>Cq n m⟩
 have hf:=mW true o;rw [hlen] at hf;obtain ⟨r,e1,hr⟩:=Bs mD hf (by omega);refine ⟨r,_,?_,hr,AH bi,AG _,by rw [AF];exact aP⟩
 simp only [go_sem,yb,ax,t5,Br _ (n:=n) (l:=o) hlen true,e1,hr.shut,hr.gk]
def asm {x y o c:Nat} (hx:x<18446744073709551616) (hy:y<18446744073709551616) (ho:o<18446744073709551616) (hc:c<18446744073709551616):
  o+x*y+c<18446744073709551616*18446744073709551616/\
  ((x*y%18446744073709551616+o+0)%18446744073709551616+c+0)%18446744073709551616=(o+x*y+c)%18446744073709551616/\
  x*y/18446744073709551616+(x*y%18446744073709551616+o+0)/18446744073709551616+((x*y%18446744073709551616+o+0)%18446744073709551616+c+0)/18446744073709551616=(o+x*y+c)/18446744073709551616:=by
 have h1:=wZ (show x<=18446744073709551615 by omega) (show y<=18446744073709551615 by omega)
 grind
def ax3 (mE:L.pure 143=some rG) (gi:L.pure 171=some nO) {v w:AV} {x y:List Nat} (hv:bU v x) (hw:bU w y) (hx:lo 18446744073709551616 x) (hy:lo 18446744073709551616 y) (lx:x.length<=49999999999) (ly:y.length<=49999999999) {n i:Nat} (hn:n=x.length+y.length) (hi:i<x.length) {a:Nat} (ha:a<18446744073709551616) {bo:Nat}:
  ∀k s,(∃(j c:Nat) (out:List Nat),aS [1,5,6,7,8,20,21,22,27,28,29] s=⟨[(1,w),(5,.aB 0 0 n),(6,ab i),(7,uc a),(8,uc c),(20,v),(21,ab x.length),(22,ab i),(27,w),(28,ab y.length),(29,ab j)],[(0,.cells true true true 1 (out.map uc))],1,0⟩/\j+k=y.length/\out.length=n/\c<18446744073709551616/\lo 18446744073709551616 out/\
    bv 18446744073709551616 out+18446744073709551616^(i+j)*c=bo+18446744073709551616^i*(a*bv 18446744073709551616 (y.take j))/\(∀m,i+y.length<=m->out.getD m 0=0))->
   ∃ex s',D P L (.loop [1,5,6,7,8,20,21,22,27,28,29] Ix) s=some (ex,s')/\∃tm c out,s'=⟨tm,[(0,.cells true true true 1 (out.map uc))],1,0⟩/\ex= .exit 2/\ai tm 1=w/\ai tm 5= .aB 0 0 n/\ai tm 6=ab i/\ai tm 8=uc c/\ai tm 20=v/\ai tm 21=ab x.length/\ai tm 22=ab i/\out.length=n/\c<18446744073709551616/\lo 18446744073709551616 out/\
    bv 18446744073709551616 out+18446744073709551616^(i+y.length)*c=bo+18446744073709551616^i*(a*bv 18446744073709551616 y)/\(∀m,i+y.length<=m->out.getD m 0=0):=by
 intro dq sq;generalize bB:aS [1,5,6,7,8,20,21,22,27,28,29] sq=s0;revert bB s0 sq dq;apply dI;rintro k s ⟨j,c,out,rfl,hk,hlen,hc,bi,aP,fV⟩;by_cases hj:j<y.length
 ·left
  have iG:(0:Nat)<18446744073709551616:=by decide
  have gy:=gE iG hy j;have nD:=gE iG bi (i+j);have ey:=hw.aQ hj;have e3:=zy (l:=out) (o:=i+j) (by omega);obtain ⟨q,hq⟩:∃q,q=y.getD j 0:=⟨_,rfl⟩;obtain ⟨o,ho⟩:∃o,o=out.getD (i+j) 0:=⟨_,rfl⟩;rw [<-hq] at gy ey;rw [<-ho] at nD e3;obtain ⟨m1,m2,m3⟩:=asm ha gy nD hc;have hpy:a*q<18446744073709551616*18446744073709551616:=by omega
  have f1:=MW (P:=P) (f:=D P L) mE ha gy;have f2:=CM (P:=P) (f:=D P L) gi (x:=a*q%18446744073709551616) (y:=o) (c:=0) (xy _ iG) nD (by omega);have f3:=CM (P:=P) (f:=D P L) gi (x:=(a*q%18446744073709551616+o+0)%18446744073709551616) (y:=c) (c:=0) (xy _ iG) hc (by omega);obtain ⟨t,ht⟩:∃t,t=o+a*q+c:=⟨_,rfl⟩;have kK:=aqi (b:=18446744073709551616) (out:=out) (p:=18446744073709551616^(i+j)) (j:=i+j) (c:=c) (t:=t) (x:=a) (y:=q) (Y:=0) (ba:=bo+18446744073709551616^i*(a*bv 18446744073709551616 (y.take j))) ho (by omega) ht (by simpa using aP) rfl rfl;rw [m2,<-ht] at f3;rw [<-ht] at m1 m3;obtain ⟨d1,jb⟩:∃d,d=(a*q%18446744073709551616+o+0)/18446744073709551616:=⟨_,rfl⟩;obtain ⟨d2,fq⟩:∃d,d=((a*q%18446744073709551616+o+0)%18446744073709551616+c+0)/18446744073709551616:=⟨_,rfl⟩;rw [<-jb] at f2 m3;rw [<-fq] at f3 m3
  rw [show (uc 0)=AV.int .u64 0 from rfl] at f2 f3;obtain ⟨h1,gS⟩:∃d,d=a*q/18446744073709551616:=⟨_,rfl⟩;rw [<-gS] at f1 m3;have ns:h1+d1<18446744073709551616:=by omega
  have Ab:h1+d1+d2<18446744073709551616:=by omega
  simp only [go_sem,ya,yh,Ix,show (j:Int)<y.length by omega,ey,f1,wrapN (n:=i+j) (by omega),show (i:Int)+(j:Int)=((i+j:Nat):Int) from rfl,cM 0 0 (show i+j<n by omega),yf,e3,f2,f3,show (h1:Int)+(d1:Int)=((h1+d1:Nat):Int) from rfl,aiR ns,show ((h1+d1:Nat):Int)+(d2:Int)=((h1+d1+d2:Nat):Int) from rfl,aiR Ab,ku (l:=out) (o:=i+j) (by omega)]
  refine ⟨_,k-1,rfl,by omega,j+1,h1+d1+d2,_,?_,by omega,by simp [hlen],Ab,mr bi (x:=t%18446744073709551616) (i:=i+j) (xy _ iG),?_,fun m hm=>?_⟩
  ·rw [wrap64 (by omega) (by omega)];simp only [go_sem,ya,yb,ax,au hv.pu,ay _ hv.pu,au hw.pu,ay _ hw.pu]<;>rfl
  ·rw [m3,show i+(j+1)=i+j+1 by omega,xd,js,<-hq,xA a,xA (18446744073709551616^i)];simp only [xB,y8] at kK;rw [kK,wR,<-Nat.add_assoc,xj (18446744073709551616^i),<-xj a,xE a (18446744073709551616^j),xj]
  ·rw [oY (by omega)];exact fV m hm
 ·right
  have:j=y.length:=by omega
  subst this;rw [xx] at aP;simp only [go_sem,ya,Ix,show ¬(y.length:Int)<y.length by omega];exact ⟨_,_,rfl,by simp,_,c,out,rfl,rfl,by simp only [go_sem,ya],by simp only [go_sem,ya],by simp only [go_sem,ya],by simp only [go_sem,ya],by simp only [go_sem,ya],by simp only [go_sem,ya],by simp only [go_sem,ya],hlen,hc,bi,aP,fV⟩
def ax4 (mE:L.pure 143=some rG) (gi:L.pure 171=some nO) {v w:AV} {x y:List Nat} (hv:bU v x) (hw:bU w y) (hx:lo 18446744073709551616 x) (hy:lo 18446744073709551616 y) (lx:x.length<=49999999999) (ly:y.length<=49999999999) {n:Nat} (hn:n=x.length+y.length):
  ∀k s,(∃(i:Nat) (out:List Nat),aS [1,5,20,21,22] s=⟨[(1,w),(5,.aB 0 0 n),(20,v),(21,ab x.length),(22,ab i)],[(0,.cells true true true 1 (out.map uc))],1,0⟩/\i+k=x.length/\out.length=n/\lo 18446744073709551616 out/\
    bv 18446744073709551616 out=bv 18446744073709551616 (x.take i)*bv 18446744073709551616 y/\(∀m,i+y.length<=m->out.getD m 0=0))->
   ∃ex s',D P L (.loop [1,5,20,21,22] Iy) s=some (ex,s')/\∃tm out,s'=⟨tm,[(0,.cells true true true 1 (out.map uc))],1,0⟩/\ex= .exit 0/\ai tm 5= .aB 0 0 n/\out.length=n/\lo 18446744073709551616 out/\
    bv 18446744073709551616 out=bv 18446744073709551616 x*bv 18446744073709551616 y:=by
 intro dq sq;generalize bB:aS [1,5,20,21,22] sq=s0;revert bB s0 sq dq;apply dI;rintro k s ⟨i,out,rfl,hk,hlen,bi,aP,fV⟩;by_cases hi:i<x.length
 ·left
  have gx:=gE (show 0<18446744073709551616 by decide) hx i;have ex:=hv.aQ hi;obtain ⟨a,ha⟩:∃a,a=x.getD i 0:=⟨_,rfl⟩;simp only [go_sem,ya,Iy,hw.len,show (i:Int)<x.length by omega,ex];generalize hq:D P L (.loop [1,5,6,7,8,20,21,22,27,28,29] Ix) _=q;obtain ⟨ex,s,rfl,tm,c,r5,rfl,rfl,t1,t5,t6,t8,t20,t21,t22,SU,hc,aBh,SV,JY⟩:=bQ hq (ax3 (P:=P) (L:=L) mE gi hv hw hx hy lx ly hn hi gx (bo:=bv 18446744073709551616 out) y.length)
   ⟨0,0,out,by simp only [go_sem,ya,yb,ax,au hv.pu,ay _ hv.pu,au hw.pu,ay _ hw.pu]<;>rfl,by omega,hlen,by decide,bi,by simp [bv],fV⟩
  have hz:r5.getD (i+y.length) 0=0:=JY _ (yr _);have bc:=nQ (b:=18446744073709551616) (l:=r5) (i:=i+y.length) (x:=c) (by omega);rw [hz,xB,y8,SV] at bc
  simp only [go_sem,ya,yh,ax,t1,t5,t6,t8,t20,t21,t22,hw.len,au hv.pu,ay _ hv.pu,au hw.pu,ay _ hw.pu,wrapN (n:=i+y.length) (by omega),show (i:Int)+(y.length:Int)=((i+y.length:Nat):Int) from rfl,cM 0 0 (show i+y.length<n by omega),yf,ku (l:=r5) (o:=i+y.length) (by omega)];refine ⟨_,k-1,rfl,by omega,i+1,r5.set (i+y.length) c,?_,by omega,by simp [SU],mr aBh hc,?_,fun m hm=>?_⟩
  ·rw [wrap64 (by omega) (by omega)];simp only [go_sem,ya,yb,ax,au hv.pu,ay _ hv.pu,au hw.pu,ay _ hw.pu]<;>rfl
  ·rw [bc,aP,js,wL,<-ha,xj]
  ·rw [oY (by omega)];exact JY m (by omega)
 ·right
  have:i=x.length:=by omega
  subst this;rw [xx] at aP;simp only [go_sem,ya,Iy,show ¬(x.length:Int)<x.length by omega];exact ⟨_,_,rfl,by simp,_,out,rfl,rfl,by simp only [go_sem,ya],hlen,bi,aP⟩
def aBi (h:Has P L 144 NJ) (mD:Has P L 166 Bh) (mE:L.pure 143=some rG) (gi:L.pure 171=some nO) {v w:AV} {x y:List Nat} (hv:bU v x) (hw:bU w y) (hx:lo 18446744073709551616 x) (hy:lo 18446744073709551616 y) (lx:x.length<=49999999999) (ly:y.length<=49999999999):
  ∃r out,aj P L 144 [v,w] r/\bU r out/\lo 18446744073709551616 out/\gm out/\bv 18446744073709551616 out=bv 18446744073709551616 x*bv 18446744073709551616 y:=by
 obtain ⟨n,hn⟩:∃n,n=x.length+y.length:=⟨_,rfl⟩;unfold aj;rw [aH h]
 simp only [go_sem,ya,yb,NJ,hv.len,hw.len,wrapN (n:=n) (by omega),show (x.length:Int)+(y.length:Int)=((x.length+y.length:Nat):Int) from rfl,<-hn,Dd (n:=n) _ (by omega)];generalize hq:D P L (.loop [1,5,20,21,22] Iy) _=q;obtain ⟨ex,s,rfl,tm,o,rfl,rfl,t5,hlen,bi,aP⟩:=bQ hq (ax4 (P:=P) (L:=L) mE gi hv hw hx hy lx ly hn x.length)
  ⟨0,ym n 0,by simp only [go_sem,ya,yb,ax,au hv.pu,ay _ hv.pu,au hw.pu,ay _ hw.pu]<;>rfl,by omega,by simp,EL (by decide) n,by rw [EM];simp [bv],fun m _=>Cq n m⟩
 have hf:=mW true o;rw [hlen] at hf;obtain ⟨r,e1,hr⟩:=Bs mD hf (by omega);refine ⟨r,_,?_,hr,AH bi,AG _,by rw [AF];exact aP⟩
 simp only [go_sem,yb,ax,t5,Br _ (n:=n) (l:=o) hlen true,e1,hr.shut,hr.gk]
end
end
section
open Go (IntKind)
def Nh (n:Int):IntKind.wrap .u64 n=n%18446744073709551616:=by
 simp [IntKind.wrap,IntKind.signed,IntKind.bits]
def wrapM (n:Nat):IntKind.wrap .u64 (n:Int)=((n%18446744073709551616:Nat):Int):=by rw [Nh];omega
def pE (a b:Nat):binOp .mul (uc a) (uc b)=some (uc (a*b%18446744073709551616)):=by
 rw [agy,<-vj,wrapM]
def A9 (a b:Nat):binOp .add (uc a) (uc b)=some (uc ((a+b)%18446744073709551616)):=by
 rw [agx,<-Int.natCast_add,wrapM]
def De {a b c:Nat} (h:(a+18446744073709551616-b)%18446744073709551616=c) (hb:b<=18446744073709551616):binOp .sub (uc a) (uc b)=some (uc c):=by
 rw [MA,Nh]
 grind
def ax5 (k k':y9) (a b:Int):binOp .shl (.int k a) (.int k' b)=Cn .shl k a b:=rfl
def ax6 (k k':y9) (a b:Int):binOp .shr (.int k a) (.int k' b)=Cn .shr k a b:=rfl
def JZ (k:y9) (a:Nat) {s:Nat} (hs:s<=64):binOp .shl (.int .u64 (a:Int)) (.int k (s:Int))=some (uc (a*2^s%18446744073709551616)):=by
 rw [ax5];simp only [Cn,yB (show ¬(s:Int)<0 by omega),xY,IntKind.bits,xn hs];rw [show ((2:Int)^s)=((2^s:Nat):Int) by simp,<-vj,wrapM]
def J4 (k:y9) (a:Nat) {s:Nat} (hs:s<=64):binOp .shr (.int .u64 (a:Int)) (.int k (s:Int))=some (uc (a/2^s)):=by
 rw [ax6];simp only [Cn,yB (show ¬(s:Int)<0 by omega),xY,IntKind.bits,xn hs]
 grind
def aku (a:Nat):binOp .and (.int .u64 (a:Int)) (.int .u64 4294967295)=some (uc (a%4294967296)):=by
 show some (AV.int .u64 (IntKind.wrap .u64 ((xL 64 (a:Int)&&&xL 64 4294967295).toNat:Int)))=_
 rw [show xL 64 (a:Int)=uG 64 a from uH 64 a,show xL 64 4294967295=uG 64 4294967295 from rfl];rw [BitVec.toNat_and,vK,vK,show (4294967295%2^64:Nat)=2^32-1 from rfl,Nat.and_two_pow_sub_one_eq_mod,wrapM]
 grind
def Zq {a b:Nat} (ha:a<18446744073709551616) (hb:b<18446744073709551616):binOp .or (.int .u64 (a:Int)) (.int .u64 (b:Int))=some (uc (a|||b)):=by
 show some (AV.int .u64 (IntKind.wrap .u64 ((xL 64 (a:Int)|||xL 64 (b:Int)).toNat:Int)))=_
 congr 2
 rw [show xL 64 (a:Int)=uG 64 a from uH 64 a,show xL 64 (b:Int)=uG 64 b from uH 64 b];rw [BitVec.toNat_or,vK,vK,yW (show a<2^64 from ha),yW (show b<2^64 from hb),wrapM]
 have:a|||b<2^64:=Nat.or_lt_two_pow ha hb
 omega
def Ss {p s c:Nat} (h:c<2^s):(p*2^s)|||c=p*2^s+c:=by
 rw [<-Nat.shiftLeft_eq,<-Nat.shiftLeft_add_eq_or_of_lt h]
def abe:∀(f n:Nat),n<2^f->eC f n<=f/\n<2^eC f n/\(0<n->0<eC f n/\2^(eC f n-1)<=n)
 | 0,n,h=>by simp [eC];simpa using h
 | f+1,n,h=>by
  simp only [eC];by_cases h0:n=0
  ·simp_all
  ·rw [fW h0,yS];obtain ⟨h1,h2,h3⟩:=abe f (n/2) (by omega);refine ⟨by omega,?_,fun _=>⟨by omega,?_⟩⟩
   ·grind
   ·rw [Nat.add_sub_cancel_left];by_cases hn:0<n/2
    ·obtain ⟨h4,h5⟩:=h3 hn;obtain ⟨m,hm⟩:∃m,eC f (n/2)=m+1:=⟨eC f (n/2)-1,by omega⟩
     grind
    ·have hz:n/2=0:=by omega
     have:eC f 0=0:=by cases f with
      | zero=>rfl
      | succ f=>rfl
     grind
def Ry {y:Nat} (h0:0<y) (h:y<18446744073709551616):64-eC 64 y<64/\9223372036854775808<=y*2^(64-eC 64 y)/\y*2^(64-eC 64 y)<18446744073709551616:=by
 obtain ⟨h1,h2,h3⟩:=abe 64 y h;obtain ⟨h4,h5⟩:=h3 h0;generalize eC 64 y=k at*
 refine ⟨by omega,?_,?_⟩
 ·have:=yV (2^(64-k)) h5
  rw [<-wR,show k-1+(64-k)=63 by omega] at this;exact this
 ·have:=wM h2 (wO (64-k))
  rw [<-wR,show k+(64-k)=64 by omega] at this;exact this
section
variable {P:aI} {L:Lib} {f:cA}
def ah5 (h:L.pure 167=some EU) {x:Nat} (hx:x<18446744073709551616):bO P L f 167 [uc x]=some (ab (64-eC 64 x:Nat)):=by
 rw [jo h];show (bif yR x 18446744073709551616 then _ else none)=_
 rw [kJ hx];rfl
def aqj {b v1 v2 u u2 t r:Nat} (dB:v2<b) (ko:t<b) (ht:t*v1+r=u) (h:b<=r\/t*v2<=b*r+u2):t*(v1*b+v2)<=u*b+u2:=by
 have h2:t*v2<=b*r+u2:=by
  rcases h with h | h
  ·have:=wZ (uU ko) (uU dB)
   have:=yZ b h
   omega
  ·exact h
 rw [xA,<-xj,<-ht,wL,xE r b];omega
def az5 (n:Nat):pw (.toInt .u64) (.int .i64 (n:Int))=some (uc (n%18446744073709551616)):=by
 show some (AV.int .u64 (IntKind.wrap .u64 (n:Int)))=_
 rw [wrapM]
def aaI {y v1 v2 u u2 q r:Nat} (hy:y=v1*4294967296+v2) (dB:v2<4294967296) (Ag:0<v1) (eN:v1<4294967296) (hu:u<y) (Af:u2<4294967296) (hq:q*v1+r=u) (hr:r<4294967296) (hQ:(u*4294967296+u2)/y<=q):
  (4294967296<=q\/4294967296*r+u2<q*v2->0<q/\(q-1)*v1+(r+v1)=u/\(u*4294967296+u2)/y<=q-1/\(4294967296<=r+v1->(u*4294967296+u2)/y=q-1))/\
  (¬4294967296<=q->q*v2<=4294967296*r+u2->(u*4294967296+u2)/y=q):=by
 have iH:0<y:=by omega
 have PN:∀t s,t*v1+s=u->4294967296<=t->s<4294967296:=fun t s h1 h2=>by
  have:=yV v1 h2
  grind
 have ah6:∀t s,t*v1+s=u->t<4294967296->(4294967296<=s\/t*v2<=4294967296*s+u2)->(u*4294967296+u2)/y<=t->(u*4294967296+u2)/y=t:=fun t s h1 h2 h3 h4=>by
  have:=aqj dB h2 h1 h3
  rw [<-hy] at this
  have:=(Nat.le_div_iff_mul_le iH).2 this
  omega
 constructor
 ·intro h;have bB:0<q:=by
   grind
  have h1:(q-1)*v1+(r+v1)=u:=by
   obtain ⟨p,rfl⟩:∃p,q=p+1:=⟨q-1,by omega⟩
   grind
  have h2:(u*4294967296+u2)/y<=q-1:=by
   have aX:u*4294967296+u2<q*y:=by
    rcases h with h | h
    ·have h3:u*4294967296+u2<4294967296*y:=by omega
     exact yT h3 (yV y h)
    ·rw [hy,xA,<-xj,<-hq,wL,xE r];omega
   have:=(we iH).2 aX
   omega
  exact ⟨bB,h1,h2,fun h3=>ah6 _ _ h1 (by
   by_cases hb:4294967296<=q-1
   ·have:=PN _ _ h1 hb;omega
   ·omega) (.inl h3) h2⟩
 ·intro h1 h2;exact ah6 q r hq (by omega) (.inr h2) hQ
def ax7 {y s v1 v2 u u2 z:Nat} (hy:y=v1*4294967296+v2) (dB:v2<4294967296) (Ag:0<v1) (eN:v1<4294967296) (hu:u<y) (Af:u2<4294967296):
  ∀k st,(∃q r:Nat,aS [2,8,9,10,11,13,14,15,16] st=⟨[(2,uc y),(8,uc s),(9,uc v1),(10,uc v2),(11,uc u),(13,uc u2),(14,uc z),(15,uc q),(16,uc r)],[],0,0⟩/\q*v1+r=u/\r<4294967296/\(u*4294967296+u2)/y<=q/\q=k)->
   ∃ex st',D P L (.loop [2,8,9,10,11,13,14,15,16] AR) st=some (ex,st')/\∃tm ct,st'=⟨tm,[],ct,0⟩/\ex= .exit 0/\ai tm 2=uc y/\ai tm 8=uc s/\ai tm 9=uc v1/\ai tm 10=uc v2/\ai tm 11=uc u/\ai tm 13=uc u2/\ai tm 14=uc z/\ai tm 15=uc ((u*4294967296+u2)/y):=by
 intro dq sq;generalize bB:aS [2,8,9,10,11,13,14,15,16] sq=s0;revert bB s0 sq dq;apply dI;rintro k st ⟨q,r,rfl,hq,hr,hQ,rfl⟩;obtain ⟨g1,g2⟩:=aaI hy dB Ag eN hu Af hq hr hQ;have hqb:q*1<=q*v1:=yZ q Ag;have aBj:=yV 4294967296 (show v1<=4294967295 by omega);have oB:q<18446744073709551616:=by omega
 have YY:=yZ 4294967296 (show r<=4294967295 by omega);have e1:=pE 4294967296 r;rw [show uc 4294967296=AV.int .u64 4294967296 from rfl,yW (show 4294967296*r<18446744073709551616 by omega)] at e1;have e2:=A9 (4294967296*r) u2;rw [yW (show 4294967296*r+u2<18446744073709551616 by omega)] at e2;have e4:=A9 r v1;rw [yW (show r+v1<18446744073709551616 by omega)] at e4;by_cases hc:4294967296<=q\/4294967296*r+u2<q*v2
 ·obtain ⟨h0,h1,h2,h3⟩:=g1 hc;have e3:binOp .sub (uc q) (.int .u64 1)=some (uc (q-1)):=De (b:=1) (by omega) (by omega);by_cases hb:4294967296<=r+v1
  ·right
   have Ah:=h3 hb;rcases (show 4294967296<=q\/(¬4294967296<=q/\4294967296*r+u2<q*v2) by omega) with t1 | ⟨t1,t2⟩
   ·simp only [go_sem,ya,AR,show (4294967296:Int)<=(q:Int) by omega,e3,e4,show (4294967296:Int)<=((r+v1:Nat):Int) by omega];exact ⟨_,_,rfl,by simp,_,_,rfl,rfl,by simp only [go_sem,ya],by simp only [go_sem,ya],by simp only [go_sem,ya],by simp only [go_sem,ya],by simp only [go_sem,ya],by simp only [go_sem,ya],by simp only [go_sem,ya],by rw [Ah];simp only [go_sem,ya]⟩
   ·have Zr:=wZ (show q<=4294967295 by omega) (show v2<=4294967295 by omega);have e5:=pE q v2;rw [yW (show q*v2<18446744073709551616 by omega)] at e5;simp only [go_sem,ya,AR,show ¬(4294967296:Int)<=(q:Int) by omega,e5,e1,e2,show ((4294967296*r+u2:Nat):Int)<((q*v2:Nat):Int) by omega,e3,e4,show (4294967296:Int)<=((r+v1:Nat):Int) by omega];exact ⟨_,_,rfl,by simp,_,_,rfl,rfl,by simp only [go_sem,ya],by simp only [go_sem,ya],by simp only [go_sem,ya],by simp only [go_sem,ya],by simp only [go_sem,ya],by simp only [go_sem,ya],by simp only [go_sem,ya],by rw [Ah];simp only [go_sem,ya]⟩
  ·left
   rcases (show 4294967296<=q\/(¬4294967296<=q/\4294967296*r+u2<q*v2) by omega) with t1 | ⟨t1,t2⟩
   ·simp only [go_sem,ya,AR,show (4294967296:Int)<=(q:Int) by omega,e3,e4,show ¬(4294967296:Int)<=((r+v1:Nat):Int) by omega];exact ⟨_,q-1,rfl,by omega,q-1,r+v1,by simp only [go_sem,ya,ax],h1,by omega,h2,rfl⟩
   ·have Zr:=wZ (show q<=4294967295 by omega) (show v2<=4294967295 by omega);have e5:=pE q v2;rw [yW (show q*v2<18446744073709551616 by omega)] at e5;simp only [go_sem,ya,AR,show ¬(4294967296:Int)<=(q:Int) by omega,e5,e1,e2,show ((4294967296*r+u2:Nat):Int)<((q*v2:Nat):Int) by omega,e3,e4,show ¬(4294967296:Int)<=((r+v1:Nat):Int) by omega];exact ⟨_,q-1,rfl,by omega,q-1,r+v1,by simp only [go_sem,ya,ax],h1,by omega,h2,rfl⟩
 ·right
  have Ah:=g2 (by omega) (by omega);have e5:=pE q v2;rw [yW (show q*v2<18446744073709551616 by omega)] at e5;simp only [go_sem,ya,AR,show ¬(4294967296:Int)<=(q:Int) by omega,e5,e1,e2,show ¬((4294967296*r+u2:Nat):Int)<((q*v2:Nat):Int) by omega];exact ⟨_,_,rfl,by simp,_,_,rfl,rfl,by simp only [go_sem,ya],by simp only [go_sem,ya],by simp only [go_sem,ya],by simp only [go_sem,ya],by simp only [go_sem,ya],by simp only [go_sem,ya],by simp only [go_sem,ya],by rw [Ah];simp only [go_sem,ya]⟩
end
end
section
open Go (IntKind)
section
variable {P:aI} {L:Lib} {f:cA}
def ax8 {y s v1 v2 u u2 z:Nat} (hy:y=v1*4294967296+v2) (dB:v2<4294967296) (Ag:0<v1) (eN:v1<4294967296) (hu:u<y) (Af:u2<4294967296):
  ∀k st,(∃q r:Nat,aS [2,8,9,10,14,15,16,17,18] st=⟨[(2,uc y),(8,uc s),(9,uc v1),(10,uc v2),(14,uc u2),(15,uc z),(16,uc r),(17,uc u),(18,uc q)],[],0,0⟩/\q*v1+r=u/\r<4294967296/\(u*4294967296+u2)/y<=q/\q=k)->
   ∃ex st',D P L (.loop [2,8,9,10,14,15,16,17,18] AS) st=some (ex,st')/\∃tm ct,st'=⟨tm,[],ct,0⟩/\ex= .exit 2/\ai tm 2=uc y/\ai tm 8=uc s/\ai tm 9=uc v1/\ai tm 10=uc v2/\ai tm 14=uc u2/\ai tm 15=uc z/\ai tm 17=uc u/\ai tm 18=uc ((u*4294967296+u2)/y):=by
 intro dq sq;generalize bB:aS [2,8,9,10,14,15,16,17,18] sq=s0;revert bB s0 sq dq;apply dI;rintro k st ⟨q,r,rfl,hq,hr,hQ,rfl⟩;obtain ⟨g1,g2⟩:=aaI hy dB Ag eN hu Af hq hr hQ;have hqb:q*1<=q*v1:=yZ q Ag;have aBj:=yV 4294967296 (show v1<=4294967295 by omega);have oB:q<18446744073709551616:=by omega
 have YY:=yZ 4294967296 (show r<=4294967295 by omega);have e1:=pE 4294967296 r;rw [show uc 4294967296=AV.int .u64 4294967296 from rfl,yW (show 4294967296*r<18446744073709551616 by omega)] at e1;have e2:=A9 (4294967296*r) u2;rw [yW (show 4294967296*r+u2<18446744073709551616 by omega)] at e2;have e4:=A9 r v1;rw [yW (show r+v1<18446744073709551616 by omega)] at e4;by_cases hc:4294967296<=q\/4294967296*r+u2<q*v2
 ·obtain ⟨h0,h1,h2,h3⟩:=g1 hc;have e3:binOp .sub (uc q) (.int .u64 1)=some (uc (q-1)):=De (b:=1) (by omega) (by omega);by_cases hb:4294967296<=r+v1
  ·right
   have Ah:=h3 hb;rcases (show 4294967296<=q\/(¬4294967296<=q/\4294967296*r+u2<q*v2) by omega) with t1 | ⟨t1,t2⟩
   ·simp only [go_sem,ya,AS,show (4294967296:Int)<=(q:Int) by omega,e3,e4,show (4294967296:Int)<=((r+v1:Nat):Int) by omega];exact ⟨_,_,rfl,by simp,_,_,rfl,rfl,by simp only [go_sem,ya],by simp only [go_sem,ya],by simp only [go_sem,ya],by simp only [go_sem,ya],by simp only [go_sem,ya],by simp only [go_sem,ya],by simp only [go_sem,ya],by rw [Ah];simp only [go_sem,ya]⟩
   ·have Zr:=wZ (show q<=4294967295 by omega) (show v2<=4294967295 by omega);have e5:=pE q v2;rw [yW (show q*v2<18446744073709551616 by omega)] at e5;simp only [go_sem,ya,AS,show ¬(4294967296:Int)<=(q:Int) by omega,e5,e1,e2,show ((4294967296*r+u2:Nat):Int)<((q*v2:Nat):Int) by omega,e3,e4,show (4294967296:Int)<=((r+v1:Nat):Int) by omega];exact ⟨_,_,rfl,by simp,_,_,rfl,rfl,by simp only [go_sem,ya],by simp only [go_sem,ya],by simp only [go_sem,ya],by simp only [go_sem,ya],by simp only [go_sem,ya],by simp only [go_sem,ya],by simp only [go_sem,ya],by rw [Ah];simp only [go_sem,ya]⟩
  ·left
   rcases (show 4294967296<=q\/(¬4294967296<=q/\4294967296*r+u2<q*v2) by omega) with t1 | ⟨t1,t2⟩
   ·simp only [go_sem,ya,AS,show (4294967296:Int)<=(q:Int) by omega,e3,e4,show ¬(4294967296:Int)<=((r+v1:Nat):Int) by omega];exact ⟨_,q-1,rfl,by omega,q-1,r+v1,by simp only [go_sem,ya,ax],h1,by omega,h2,rfl⟩
   ·have Zr:=wZ (show q<=4294967295 by omega) (show v2<=4294967295 by omega);have e5:=pE q v2;rw [yW (show q*v2<18446744073709551616 by omega)] at e5;simp only [go_sem,ya,AS,show ¬(4294967296:Int)<=(q:Int) by omega,e5,e1,e2,show ((4294967296*r+u2:Nat):Int)<((q*v2:Nat):Int) by omega,e3,e4,show ¬(4294967296:Int)<=((r+v1:Nat):Int) by omega];exact ⟨_,q-1,rfl,by omega,q-1,r+v1,by simp only [go_sem,ya,ax],h1,by omega,h2,rfl⟩
 ·right
  have Ah:=g2 (by omega) (by omega);have e5:=pE q v2;rw [yW (show q*v2<18446744073709551616 by omega)] at e5;simp only [go_sem,ya,AS,show ¬(4294967296:Int)<=(q:Int) by omega,e5,e1,e2,show ¬((4294967296*r+u2:Nat):Int)<((q*v2:Nat):Int) by omega];exact ⟨_,_,rfl,by simp,_,_,rfl,rfl,by simp only [go_sem,ya],by simp only [go_sem,ya],by simp only [go_sem,ya],by simp only [go_sem,ya],by simp only [go_sem,ya],by simp only [go_sem,ya],by simp only [go_sem,ya],by rw [Ah];simp only [go_sem,ya]⟩
def aiS (a:Nat):binOp .shr (.int .u64 (a:Int)) (.int .u64 32)=some (uc (a/4294967296)):=J4 .u64 a (s:=32) (by decide)
def akv (a:Nat) {b:Nat} (ha:a<18446744073709551616) (hb:0<b):binOp .quo (uc a) (uc b)=some (uc (a/b)):=by
 rw [fX _ _ _ (by omega),Int.tdiv_eq_ediv_of_nonneg (by omega),<-Int.natCast_ediv,wrapM,yW];exact wQ (vI a b) ha
def aBk (a:Nat) {b:Nat} (hb:0<b):binOp .rem (uc a) (uc b)=some (uc (a%b)):=by
 rw [iK _ _ _ (by omega),Int.tmod_eq_emod_of_nonneg (by omega),<-Int.natCast_emod]
def aqk {hi lo y s u z Y:Nat} (hs:s<64) (bi:lo<18446744073709551616) (hY:Y=y*2^s) (hu:u=hi*2^s+lo/2^(64-s)) (hz:z=lo*2^s%18446744073709551616):
  (hi*18446744073709551616+lo)*2^s=u*18446744073709551616+z:=by
 have e:18446744073709551616=2^(64-s)*2^s:=by rw [<-wR,show 64-s+s=64 by omega]
 have h1:lo*2^s/18446744073709551616=lo/2^(64-s):=by
  rw [e,uK _ _ (wO s)]
 grind
def ab6 {Y q a b:Nat} (h1:a<Y) (h2:b<4294967296) (h3:q=(a*4294967296+b)/Y):q<4294967296:=by
 rw [h3];exact (we (by omega)).2 (by omega)
def asn {u w x z z0 z1 q0 q1 Y:Nat} (jb:q1*Y+w=u*4294967296+z1) (gA:q0*Y+x=w*4294967296+z0) (hz:z=z1*4294967296+z0):u*18446744073709551616+z=(q1*4294967296+q0)*Y+x:=by grind
def aoQ {q1 q0:Nat} (h1:q1<4294967296) (h0:q0<4294967296):q1*4294967296<18446744073709551616/\q1*4294967296+q0<18446744073709551616:=by omega
def akw (h:Has P L 165 Jr) (J5:L.pure 167=some EU) {hi lo y:Nat} (fV:hi<y) (bi:lo<18446744073709551616) (hy:y<18446744073709551616):
  aj P L 165 [uc hi,uc lo,uc y] (.ae [uc ((hi*18446744073709551616+lo)/y),uc ((hi*18446744073709551616+lo)%y)]):=by
 have iH:0<y:=by omega
 by_cases h0:hi=0
 ·subst h0;have e1:=akv lo bi iH;have e2:=aBk lo iH;rw [tN,yf];unfold aj;rw [aH h];simp only [go_sem,ya,Jr,show ¬(y:Int)=0 by omega,show ¬(y:Int)<=0 by omega,show ((0:Nat):Int)=0 from rfl,e1,e2];rfl
 ·obtain ⟨s,hs⟩:∃s,s=64-eC 64 y:=⟨_,rfl⟩;have hl:=ah5 (P:=P) (f:=D P L) J5 hy;obtain ⟨l1,l2,l3⟩:=Ry iH hy;rw [<-hs] at hl l1 l2 l3;obtain ⟨Y,hY⟩:∃Y,Y=y*2^s:=⟨_,rfl⟩;obtain ⟨u,hu⟩:∃u,u=hi*2^s+lo/2^(64-s):=⟨_,rfl⟩;obtain ⟨z,hz⟩:∃z,z=lo*2^s%18446744073709551616:=⟨_,rfl⟩;have hdiv:=aqk l1 bi hY hu hz;rw [<-hY] at l2 l3;have hp:=wO s;obtain ⟨v1,eN⟩:∃v,v=Y/4294967296:=⟨_,rfl⟩;obtain ⟨v2,dB⟩:∃v,v=Y%4294967296:=⟨_,rfl⟩;have hYv:Y=v1*4294967296+v2:=by omega
  obtain ⟨z1,mM⟩:∃v,v=z/4294967296:=⟨_,rfl⟩;obtain ⟨z0,kv⟩:∃v,v=z%4294967296:=⟨_,rfl⟩;have Gf:z<18446744073709551616:=by omega
  have hhY:hi*2^s<Y:=by rw [hY];exact wM fV hp
  have gP:lo/2^(64-s)<2^s:=by
   refine (we (wO _)).2 ?_;rw [<-wR,show s+(64-s)=64 by omega];exact bi
  have om:hi*2^s|||lo/2^(64-s)=u:=by rw [Ss gP,hu]
  have hN:hi*18446744073709551616+lo<y*18446744073709551616:=by
   have:=yV 18446744073709551616 (show hi+1<=y from fV)
   omega
  have Zs:u<Y:=by
   have h1:=wM hN hp;rw [hdiv,Nat.mul_right_comm,<-hY] at h1;omega
  obtain ⟨q1,fw⟩:∃q,q=(u*4294967296+z1)/Y:=⟨_,rfl⟩;obtain ⟨w,hw⟩:∃q,q=(u*4294967296+z1)%Y:=⟨_,rfl⟩;obtain ⟨q0,bB⟩:∃q,q=(w*4294967296+z0)/Y:=⟨_,rfl⟩;obtain ⟨x,hx⟩:∃q,q=(w*4294967296+z0)%Y:=⟨_,rfl⟩;have PO:w<Y:=by rw [hw];exact xy _ (by omega)
  have Zt:x<Y:=by rw [hx];exact xy _ (by omega)
  have jb:=xR (u*4294967296+z1) Y;rw [<-fw,<-hw,xE] at jb;have gA:=xR (w*4294967296+z0) Y;rw [<-bB,<-hx,xE] at gA;have aBl:=ab6 Zs (show z1<4294967296 by omega) fw;have aBm:=ab6 PO (show z0<4294967296 by omega) bB;obtain ⟨td1,td2⟩:=aoQ aBl aBm;have OV:(hi*18446744073709551616+lo)*2^s=(q1*4294967296+q0)*Y+x:=by
   rw [hdiv];exact asn jb gA (by omega)
  have r1:(hi*18446744073709551616+lo)/y=q1*4294967296+q0:=by
   rw [<-uK _ _ hp,OV,<-hY,xE _ Y,tx (by omega),wS Zt,y8]
  have r2:x/2^s=(hi*18446744073709551616+lo)%y:=by
   have h1:x=(hi*18446744073709551616+lo)*2^s%(y*2^s):=by
    rw [OV,<-hY,xE _ Y,tz,yW Zt]
   rw [h1,vP,Nat.mul_div_cancel _ hp]
  have o1:=JZ .u64 y (s:=s) (by omega);rw [<-hY,yW l3] at o1;have o2:=aiS Y;rw [<-eN] at o2;have o3:=aku Y;rw [<-dB] at o3;have o4:=JZ .u64 hi (s:=s) (by omega);rw [yW (show hi*2^s<18446744073709551616 by omega)] at o4;have o5:binOp .sub (.int .u64 64) (uc s)=some (uc (64-s)):=De (a:=64) (by omega) (by omega);have o6:=J4 .u64 lo (s:=64-s) (by omega);have o7:=Zq (a:=hi*2^s) (b:=lo/2^(64-s)) (by omega) (wQ (vI _ _) bi);rw [om] at o7;have o8:=JZ .u64 lo (s:=s) (by omega);rw [<-hz] at o8;have o9:=aiS z;rw [<-mM] at o9;have Zu:=aku z;rw [<-kv] at Zu;have FF:0<v1:=by omega
  have aiT:∀{a:Nat},a<Y->binOp .quo (uc a) (uc v1)=some (uc (a/v1))/\binOp .mul (uc (a/v1)) (uc v1)=some (uc (a/v1*v1))/\binOp .sub (uc a) (uc (a/v1*v1))=some (uc (a%v1)):=fun {a} ha=>by
   have h1:=xR a v1;rw [xE] at h1;have h2:=pE (a/v1) v1;generalize a/v1*v1=m at*
   rw [yW (show m<18446744073709551616 by omega)] at h2;exact ⟨akv a (by omega) FF,h2,De (by omega) (by omega)⟩
  obtain ⟨g1,g2,g3⟩:=aiT Zs;obtain ⟨g4,g5,g6⟩:=aiT PO;have first:∀{a b:Nat},b<4294967296->(a*4294967296+b)/Y<=a/v1:=fun {a b} hb=>by
   have:=Qm (b:=4294967296) (V:=Y) (v1:=v1) (v2:=v2) (vr:=0) (U:=a*4294967296+b) (u0:=0) (u1:=a) (u2:=b) (ur:=0) (p:=1) (by omega) (by omega) (by decide) hb FF
   simpa using this
  have back:∀{a b q x:Nat},a*4294967296+b=q*Y+x->x<Y->binOp .mul (uc a) (.int .u64 4294967296)=some (uc (a*4294967296%18446744073709551616))/\binOp .add (uc (a*4294967296%18446744073709551616)) (uc b)=some (uc ((a*4294967296%18446744073709551616+b)%18446744073709551616))/\
    binOp .mul (uc q) (uc Y)=some (uc (q*Y%18446744073709551616))/\binOp .sub (uc ((a*4294967296%18446744073709551616+b)%18446744073709551616)) (uc (q*Y%18446744073709551616))=some (uc x):=fun {a b q x} h1 h2=>by
   refine ⟨pE a 4294967296,A9 _ _,pE q Y,De ?_ (by omega)⟩;generalize q*Y=m at*
   omega
  obtain ⟨k1,k2,k3,k4⟩:=back jb.symm PO;obtain ⟨k5,k6,k7,k8⟩:=back gA.symm Zt;have m1:=pE q1 4294967296;rw [yW td1,show uc 4294967296=AV.int .u64 4294967296 from rfl] at m1;have m2:=A9 (q1*4294967296) q0;rw [yW td2] at m2;have m3:=J4 .u64 x (s:=s) (by omega);rw [r1,<-r2];unfold aj;rw [aH h];simp only [go_sem,ya,Jr,show ¬(y:Int)=0 by omega,show ¬(y:Int)<=(hi:Int) by omega,show ¬(hi:Int)=0 by omega,hl,az5,yW (show s<18446744073709551616 by omega),o1,o2,o3,o4,o5,o6,o7,o8,o9,Zu,g1,g2,g3];generalize mR:D P L (.loop [2,8,9,10,11,13,14,15,16] AR) _=qq
  obtain ⟨ex,st,rfl,tm,ct,rfl,rfl,t2,t8,t9,t10,t11,t13,t14,t15⟩:=bQ mR (ax7 (P:=P) (L:=L) (s:=s) (z:=z0) hYv (by omega) FF (by omega) Zs (show z1<4294967296 by omega) (u/v1)) ⟨u/v1,u%v1,by simp only [go_sem,ya,ax],by rw [xE];exact xR u v1,by have:=xy u FF;omega,first (by omega),rfl⟩
  rw [<-fw] at t15;simp only [go_sem,ya,ax,t2,t8,t9,t10,t11,t13,t14,t15,k1,k2,k3,k4,g4,g5,g6];generalize Df:D P L (.loop [2,8,9,10,14,15,16,17,18] AS) _=Zv;obtain ⟨ex,st,rfl,sd,ct2,rfl,rfl,t2,t8,t9,t10,t14,t15,t17,t18⟩:=bQ Df (ax8 (P:=P) (L:=L) (s:=s) (z:=q1) hYv (by omega) FF (by omega) PO (show z0<4294967296 by omega) (w/v1)) ⟨w/v1,w%v1,by simp only [go_sem,ya,ax],by rw [xE];exact xR w v1,by have:=xy w FF;omega,first (by omega),rfl⟩
  rw [<-bB] at t18;simp only [go_sem,ya,ax,t2,t8,t14,t15,t17,t18,m1,m2,k5,k6,k7,k8,m3];rfl
end
end
section
open Go (IntKind)
mutual
def below (n:Nat):AV->Prop
 | .ptr id _=>id<n
 | .aB id _ _=>id<n
 | .map id=>id<n
 | .it id=>id<n
 | .fn (.f _) first cap=>qu n first/\qu n cap
 | .fn (.y l) first cap=>l<n/\first=[]/\cap=[]
 | .agg cs=>qu n cs
 | .ae cs=>qu n cs
 | _=>True
def qu (n:Nat):List AV->Prop
 | []=>True
 | v::r=>below n v/\qu n r
end
def qv (n:Nat):Env->Prop
 | []=>True
 | (_,v)::r=>below n v/\qv n r
def CN (n:Nat):Obj->Prop
 | .cells _ pu _ _ cs=>pu=true\/qu n cs
 | .mp _ ks vs=>qu n ks/\qu n vs
 | .si _ _=>True
 | .lp tm _ _ _ _ _=>qv n tm
def IQ (b n:Nat):Hp->Prop
 | []=>True
 | (id,o)::r=>id<b/\CN n o/\IQ b n r
mutual
def ab7 {f:Nat->Option Nat} {n:Nat} (hf:∀x,x<n->f x=some x):∀{v:AV},below n v->cd f v=v
 | .int _ _,_ | .bool _,_ | .bS _ _,_ | .str _,_ | .kN,_ | .b5 _,_ | .aa,_ | .aA _ _ _,_ | .iS,_ | .j0,_ | .jw _ _,_ | .undef,_ | .bD _ _ _ _,_=>rfl
 | .ptr id o,h=>by simp only [cd,hf id h]
 | .aB id o k,h=>by simp only [cd,hf id h]
 | .map id,h=>by simp only [cd,hf id h]
 | .it id,h=>by simp only [cd,hf id h]
 | .fn (.y l) first cap,h=>by
  obtain ⟨h1,rfl,rfl⟩:=h;simp only [cd,hf l h1,eK]
 | .fn (.f _) first cap,h=>by
  simp only [cd,Ax hf h.1,Ax hf h.2]
 | .agg cs,h=>by simp only [below] at h;simp only [cd,Ax hf h]
 | .ae cs,h=>by simp only [below] at h;simp only [cd,Ax hf h]
def Ax {f:Nat->Option Nat} {n:Nat} (hf:∀x,x<n->f x=some x):∀{vs:List AV},qu n vs->eK f vs=vs
 | [],_=>rfl
 | v::r,h=>by simp only [eK,ab7 hf h.1,Ax hf h.2]
end
def QA {f:Nat->Option Nat} {n:Nat} (hf:∀x,x<n->f x=some x):∀{tm:Env},qv n tm->iT f tm=tm
 | [],_=>rfl
 | (_,v)::r,h=>by simp only [iT,ab7 hf h.1,QA hf h.2]
def aoR {f:Nat->Option Nat} {n:Nat} (hf:∀x,x<n->f x=some x):∀{o:Obj},CN n o->jx f o=o
 | .cells _ pu _ _ cs,h=>by
  cases pu with
  | true=>rfl
  | false=>simp only [CN,yN,ybu] at h;simp only [jx,yS,Ax hf h]
 | .mp _ ks vs,h=>by simp only [jx,Ax hf h.1,Ax hf h.2]
 | .si _ _,_=>rfl
 | .lp tm _ _ _ _ _,h=>by simp only [CN] at h;simp only [jx,QA hf h]
mutual
def abf {n:Nat}:∀{v:AV},below n v->∀x,x∈refs v->x<n
 | .int _ _,_,x,h | .bool _,_,x,h | .bS _ _,_,x,h | .str _,_,x,h | .kN,_,x,h | .b5 _,_,x,h | .aa,_,x,h | .aA _ _ _,_,x,h | .iS,_,x,h | .j0,_,x,h | .jw _ _,_,x,h | .undef,_,x,h | .bD _ _ _ _,_,x,h=>by simp [refs] at h
 | .ptr id o,h,x,hx=>by simp only [refs,xF] at hx;subst hx;exact h
 | .aB id o k,h,x,hx=>by simp only [refs,xF] at hx;subst hx;exact h
 | .map id,h,x,hx=>by simp only [refs,xF] at hx;subst hx;exact h
 | .it id,h,x,hx=>by simp only [refs,xF] at hx;subst hx;exact h
 | .fn (.y l) first cap,h,x,hx=>by simp only [refs,xF] at hx;subst hx;exact h.1
 | .fn (.f _) first cap,h,x,hx=>by
  simp only [refs,wj] at hx;exact hx.elim (Au h.1 x) (Au h.2 x)
 | .agg cs,h,x,hx=>by simp only [below] at h;simp only [refs] at hx;exact Au h x hx
 | .ae cs,h,x,hx=>by simp only [below] at h;simp only [refs] at hx;exact Au h x hx
def Au {n:Nat}:∀{vs:List AV},qu n vs->∀x,x∈fZ vs->x<n
 | [],_,x,h=>by simp [fZ] at h
 | v::r,h,x,hx=>by
  simp only [fZ,wj] at hx;exact hx.elim (abf h.1 x) (Au h.2 x)
end
def Qn {n:Nat}:∀{tm:Env},qv n tm->∀x,x∈gF tm->x<n
 | [],_,x,h=>by simp [gF] at h
 | (_,v)::r,h,x,hx=>by
  simp only [gF,wj] at hx;exact hx.elim (abf h.1 x) (Qn h.2 x)
def aob {n:Nat}:∀{o:Obj},CN n o->∀x,x∈kF o->x<n
 | .cells _ pu _ _ cs,h,x,hx=>by
  cases pu with
  | true=>simp [kF] at hx
  | false=>simp only [CN,yN,ybu] at h;exact Au h x hx
 | .mp _ ks vs,h,x,hx=>by
  simp only [kF,wj] at hx;exact hx.elim (Au h.1 x) (Au h.2 x)
 | .si _ _,_,x,hx=>by simp [kF] at hx
 | .lp tm _ _ _ _ _,h,x,hx=>by simp only [CN] at h;exact Qn h x hx
def jZ (B:Nat):List (List AV)->Hp
 | []=>[]
 | cs::r=>(B+r.length,.cells true true true 1 cs)::jZ B r
def CW (B:Nat):List (List AV)->Hp->Hp
 | [],acc=>acc
 | cs::r,acc=>CW (B+1) r ((B,.cells true true true 1 cs)::acc)
def abg:∀(l:List (List AV)) (B:Nat) (x:List AV) (acc:Hp),CW B (l++[x]) acc=(B+l.length,.cells true true true 1 x)::CW B l acc
 | [],B,x,acc=>rfl
 | c::l,B,x,acc=>by
  simp only [xm,CW,abg l,yz]
  grind
def ab8 (B:Nat) (acc:Hp):∀rs:List (List AV),CW B rs.reverse acc=jZ B rs++acc
 | []=>rfl
 | c::r=>by
  simp only [yax,abg,ab8 B acc r,yak,jZ,xm]
def ab9 {B:Nat} {old:Hp}:∀{rs:List (List AV)} {i:Nat} (h:i<rs.length),aq (jZ B rs++old) (B+i)=some (.cells true true true 1 (rs.reverse[i]'(by simpa using h)))
 | c::r,i,h=>by
  simp only [jZ,xm,yax];by_cases hi:i=r.length
  ·subst hi;rw [aq,wV,yA]
   simp
  ·have aX:i<r.length:=by grind
   rw [aq,fW (by omega),yS,ab9 aX]
   grind
def CO {a b:Nat} (h:a<b):yR a b=true:=by simp_all
def IR {a b:Nat} (h:b<=a):yR a b=false:=by
 cases hq:yR a b with
 | false=>rfl
 | true=>have:=yv hq;omega
def Qg {B:Nat} {old:Hp}:∀rs:List (List AV),jq B (jZ B rs++old)=jq B old
 | []=>rfl
 | c::r=>by
  simp only [jZ,xm];rw [jq,IR (by omega),yS,Qg r]
def abh {B:Nat} {old:Hp} {f:Nat->Option Nat}:∀rs:List (List AV),mv B f (jZ B rs++old)=mv B f old
 | []=>rfl
 | c::r=>by
  simp only [jZ,xm];rw [mv,IR (by omega),yS,abh r]
def aaJ {B n:Nat} {f:Nat->Option Nat} (hf:∀x,x<n->f x=some x):∀{old:Hp},IQ B n old->mv B f old=old
 | [],_=>rfl
 | (id,o)::r,h=>by
  rw [mv,CO h.1,yA,aoR hf h.2.1,aaJ hf h.2.2]
def aoS {B s x:Nat} (h:B+s<=x):jy x (wv B s)=false:=by
 induction s generalizing B with
 | zero=>rfl
 | succ s ih=>rw [vZ,jy,fW (by omega),yS,ih (by omega)]
def QB {hp:Hp} {B R:Nat} (ff:∀i,i<R->∃rw ex sz cs,aq hp (B+i)=some (.cells rw true ex sz cs)):
  ∀(W:List Nat) (bm s:Nat),W.length<bm->s<=R->W.filter (fun x=> !yR x B)=wv (B+s) (R-s)->reach hp B bm W (wv B s)=wv B R
 | [],0,s,hf,_,_=>by simp at hf
 | [],bm+1,s,hf,hs,h=>by
  have:R-s=0:=by
   grind
  rw [reach,show R=s by omega]
 | id::W,0,s,hf,_,_=>by simp at hf
 | id::W,bm+1,s,hf,hs,h=>by
  have BI:W.length<bm:=by simp_all
  rw [reach];by_cases hid:id<B
  ·rw [CO hid,Bool.true_or,yA];rw [yaG,CO hid] at h;exact QB ff W bm s BI hs (by simpa using h)
  ·rw [yaG,IR (by omega)] at h;have hRs:R-s=(R-s-1)+1:=by
    have:=congrArg List.length h
    grind
   rw [hRs,vZ] at h;injection h with h1 h2
   subst h1;rw [IR (by omega),Bool.false_or,aoS (yr _),yS];obtain ⟨rw,ex,sz,cs,ho⟩:=ff s (by omega);simp only [ho,kF,yA,xG];have e:wv B s++[B+s]=wv B (s+1):=by rw [List.range'_concat];simp
   rw [e];exact QB ff W bm (s+1) BI (by omega) (by rw [h2,show R-s-1=R-(s+1) by omega,show B+s+1=B+(s+1) by omega])
def aoT {B s i k:Nat} (h:i<s):hX (B+i) (wv B s) k=some (k+i):=by
 induction s generalizing B i k with
 | zero=>omega
 | succ s ih=>
  rw [vZ,hX];by_cases hi:i=0
  ·simp_all
  ·rw [fW (by omega),yS]
   have:=ih (B:=B+1) (i:=i-1) (k:=k+1) (by omega)
   grind
def aoc {B R x:Nat} (h:x<B+R):kG B (wv B R) x=some x:=by
 unfold kG;by_cases hx:x<B
 ·rw [CO hx,yA]
 ·rw [IR (by omega),yS]
  have:=aoT (B:=B) (s:=R) (i:=x-B) (k:=B) (by omega)
  grind
def abi {hp:Hp} {f:Nat->Option Nat}:∀(ro:List (List AV)) (B:Nat) (acc:Hp),(∀i (h:i<ro.length),aq hp (B+i)=some (.cells true true true 1 ro[i]))->gG hp f (wv B ro.length) B acc=CW B ro acc
 | [],B,acc,_=>rfl
 | c::r,B,acc,h=>by
  have h0:=h 0 (by simp);simp only [y8,List.getElem_cons_zero] at h0;rw [yz,vZ,gG];simp only [h0,jx,yA,CW]
  exact abi r (B+1) _ (fun i hi=>by
   have:=h (i+1) (by simpa using hi)
   rw [show B+1+i=B+(i+1) by omega,this]
   simp)
def anH {live:List Nat} {tm:Env} {B ct:Nat} {old:Hp} {rs:List (List AV)} (ht:qv B (da tm live)) (ho:IQ B (B+rs.length) old) (hl:(gF (da tm live)).length+(jq B old).length<100000)
  (hr:(jq B old).filter (fun x=> !yR x B)=wv B rs.length):aS live ⟨tm,jZ B rs++old,ct,B⟩=⟨da tm live,jZ B rs++old,B+rs.length,B⟩:=by
 have ff:∀i (h:i<rs.length),aq (jZ B rs++old) (B+i)=some (.cells true true true 1 (rs.reverse[i]'(by simpa using h))):=fun i h=>ab9 h
 have aix:reach (jZ B rs++old) B 100000 (gF (da tm live)++jq B (jZ B rs++old)) []=wv B rs.length:=by
  have:=QB (hp:=jZ B rs++old) (B:=B) (R:=rs.length) (fun i hi=>⟨_,_,_,_,ff i hi⟩) (gF (da tm live)++jq B (jZ B rs++old)) 100000 0 (by rw [Qg,List.length_append];exact hl) (ud _) (by
   rw [List.filter_append,Qg,hr,tR.2 (fun x hx=>by
    have:=Qn ht x hx
    simp [CO this])]
   simp)
  grind
 have hid:∀x,x<B+rs.length->kG B (wv B rs.length) x=some x:=fun x hx=>aoc hx
 have hn:=abi (hp:=jZ B rs++old) (f:=kG B (wv B rs.length)) rs.reverse B old (fun i hi=>ff i (by simpa using hi));rw [yak] at hn;simp only [aS,aix,abh,aaJ hid ho,hn,ab8,List.length_range']
 rw [QA (n:=B) (fun x hx=>hid x (by omega)) ht]
def abj {B b n:Nat} (hb:b<=B):∀{H:Hp},IQ b n H->∀x,x∈jq B H->x<n
 | [],_,x,hx=>by simp [jq] at hx
 | (id,o)::r,h,x,hx=>by
  rw [jq,CO (by have:=h.1;omega),yA,wj] at hx;exact hx.elim (aob h.2.1 x) (abj hb h.2.2 x)
def aaK {live:List Nat} {tm:Env} {B ct:Nat} {old:Hp} (ht:qv B (da tm live)) (ho:IQ B B old) (hl:(gF (da tm live)).length+(jq B old).length<100000):
  aS live ⟨tm,old,ct,B⟩=⟨da tm live,old,B,B⟩:=by
 have:=anH (rs:=[]) (ct:=ct) ht (by simpa using ho) hl (by
  rw [tR.2 (fun x hx=>by have:=abj (yr B) ho x hx;simp [CO this])]
  rfl)
 simpa [jZ] using this
end
section
open Go (IntKind)
section
variable {P:aI} {L:Lib}
def agJ {n:Nat} {F:aZ} (h:Has P L n F) {hp:Hp} {ct:Nat} {av:List AV} {ex:Ex} {s:St} {v:AV} (hD:D P L F.body ⟨eh 0 av,hp,ct,ct⟩=some (ex,s)) (he:ex= .normal\/ex= .ret) (hr:iJ s F.gk=some v):
  iL P L (D P L) hp ct n av=some (v,s.hp,s.ct):=by
 simp only [iL,h.heap,h.code,hD]
 grind
def ac9 (z:AV):∀n,(ym n [z]).flatten=ym n z
 | 0=>rfl
 | n+1=>by rw [wC,List.flatten_cons,ac9 z n,wC];rfl
mutual
def p9 {n:Nat}:∀{v:AV},a6 v=true->below n v
 | .int _ _,_ | .bool _,_ | .bS _ _,_ | .str _,_ | .kN,_ | .b5 _,_ | .aa,_ | .aA _ _ _,_ | .iS,_ | .j0,_ | .jw _ _,_ | .undef,_=>trivial
 | .bD _ _ _ _,_=>trivial
 | .ptr _ _,h | .aB _ _ _,h | .map _,h | .it _,h=>by simp [a6] at h
 | .fn (.y _) _ _,h=>by simp [a6] at h
 | .fn (.f _) _ _,h=>by
  simp only [a6,ye] at h;exact ⟨Hy h.1,Hy h.2⟩
 | .agg cs,h=>by simp only [a6] at h;simp only [below];exact Hy h
 | .ae cs,h=>by simp only [a6] at h;simp only [below];exact Hy h
def Hy {n:Nat}:∀{vs:List AV},aG vs=true->qu n vs
 | [],_=>trivial
 | _::_,h=>by
  simp only [aG,ye] at h;exact ⟨p9 h.1,Hy h.2⟩
end
end
end
section
open Go (IntKind)
section
variable {pre x post:List Nat} {i:Nat}
def oZ:(pre++x++post).length=pre.length+x.length+post.length:=by grind
def Cr (h:i<x.length):(pre++x++post).getD (pre.length+i) 0=x.getD i 0:=by grind
def MD (a:Nat) (h:i<x.length):(pre++x++post).set (pre.length+i) a=pre++x.set i a++post:=by simp_all
end
def mu (n:Nat) (k:y9) (a:Int):below n (.int k a)=True:=rfl
def mX (n id o k:Nat):below n (.aB id o k)=(id<n):=rfl
def mi (n:Nat):qv n []=True:=rfl
def mf (n i:Nat) (v:AV) (r:Env):qv n ((i,v)::r)=(below n v/\qv n r):=rfl
def qh {live:List Nat} {tm:Env} {ct:Nat} {a b:List AV} (ht:qv 2 (da tm live)) (hl:(gF (da tm live)).length<100000):
  aS live ⟨tm,[(1,.cells true true true 1 a),(0,.cells true true true 1 b)],ct,2⟩=⟨da tm live,[(1,.cells true true true 1 a),(0,.cells true true true 1 b)],2,2⟩:=
 aaK ht ⟨by omega,.inl rfl,by omega,.inl rfl,trivial⟩ (by
  have:jq 2 [(1,Obj.cells true true true 1 a),(0,Obj.cells true true true 1 b)]=[]:=rfl
  rw [this,yO,y8];exact hl)
section
variable {P:aI} {L:Lib}
def aoU {x s c:Nat} (hs:s<64) (hx:x<18446744073709551616) (hc:c<2^s):
  c|||(x*2^s%18446744073709551616)<18446744073709551616/\c<18446744073709551616/\x/2^(64-s)<2^s/\(c|||(x*2^s%18446744073709551616))+18446744073709551616*(x/2^(64-s))=x*2^s+c:=by
 have e:18446744073709551616=2^(64-s)*2^s:=by rw [<-wR,show 64-s+s=64 by omega]
 have h1:x*2^s%18446744073709551616=(x%2^(64-s))*2^s:=by rw [e,vP]
 have h2:x/2^(64-s)<2^s:=by
  refine (we (wO _)).2 ?_
  grind
 have h3:c|||(x*2^s%18446744073709551616)=(x%2^(64-s))*2^s+c:=by rw [h1,ybH,Ss hc]
 have h4:(x%2^(64-s))*2^s+c<18446744073709551616:=by
  have:=yV (2^s) (show x%2^(64-s)+1<=2^(64-s) from xy _ (wO _))
  grind
 have h5:=tv x (2^(64-s))
 grind
def ax9 {v:AV} {w:List Nat} (hv:bU v w) (hw:lo 18446744073709551616 w) (lw:w.length<=99999999999) {s n:Nat} (hs:s<64) (hn:n=w.length+1):
  ∀k st,(∃(i:Nat) (out:List Nat),aS [1,5,12,13,14] st=⟨[(1,ab s),(5,.aB 0 0 n),(12,v),(13,ab w.length),(14,ab i)],[(0,.cells true true true 1 (out.map uc))],1,0⟩/\i+k=w.length/\out.length=n/\lo 18446744073709551616 out/\bv 18446744073709551616 out=bv 18446744073709551616 (w.take i)*2^s/\out.getD i 0<2^s/\(∀m,i<m->out.getD m 0=0))->
   ∃ex st',D P L (.loop [1,5,12,13,14] Eu) st=some (ex,st')/\∃tm out,st'=⟨tm,[(0,.cells true true true 1 (out.map uc))],1,0⟩/\ex= .exit 0/\ai tm 5= .aB 0 0 n/\out.length=n/\lo 18446744073709551616 out/\bv 18446744073709551616 out=bv 18446744073709551616 w*2^s:=by
 intro dq sq;generalize bB:aS [1,5,12,13,14] sq=s0;revert bB s0 sq dq;apply dI;rintro k st ⟨i,out,rfl,hk,hlen,bi,aP,hc,fV⟩;by_cases hi:i<w.length
 ·left
  have gx:=gE (show 0<18446744073709551616 by decide) hw i;have ex:=hv.aQ hi;have ec:=zy (l:=out) (o:=i) (by omega);have bc:=nQ (b:=18446744073709551616) (l:=out) (i:=i) (x:=out.getD i 0|||(w.getD i 0*2^s%18446744073709551616)) (by omega);have hz:out.getD (i+1) 0=0:=fV _ (by omega);have eF:=js (b:=18446744073709551616) (l:=w) i;generalize out.getD i 0=c at*
  generalize w.getD i 0=x at*
  obtain ⟨s1,s2,s3,s4⟩:=aoU hs gx hc;have o1:=JZ .i64 x (s:=s) (by omega);have o2:=Zq s2 (xy (x*2^s) (by decide));have o3:binOp .sub (.int .i64 64) (ab s)=some (ab (64-s:Nat)):=by
   rw [MA,wrap64 (by omega) (by omega)];congr 2;omega
  have o4:=J4 .i64 x (s:=64-s) (by omega);generalize kY:c|||(x*2^s%18446744073709551616)=c' at*
  by_cases h0:0<s
  ·have Ni:=nQ (b:=18446744073709551616) (l:=out.set i c') (i:=i+1) (x:=x/2^(64-s)) (by simp;omega);rw [oY (by omega),hz,xB,y8] at Ni;have aBn:x/2^(64-s)<18446744073709551616:=wQ (vI _ _) gx;generalize x/2^(64-s)=y at*
   simp only [go_sem,ya,yh,Eu,show (i:Int)<w.length by omega,ex,cM 0 0 (show i<n by omega),yf,ec,o1,o2,ku (l:=out) (o:=i) (by omega),show (0:Int)<(s:Int) by omega,show (i:Int)+1=((i+1:Nat):Int) from rfl,wrapN (n:=i+1) (by omega),o3,o4,cM 0 0 (show i+1<n by omega),ku (l:=out.set i c') (o:=i+1) (by simp;omega)];refine ⟨_,k-1,rfl,by omega,i+1,(out.set i c').set (i+1) y,by simp only [go_sem,ya,yb,ax,au hv.pu,ay _ hv.pu]<;>rfl,by omega,by simp [hlen],mr (mr bi s1) aBn,?_,by rw [aoy (by simp;omega)];exact s3,fun m hm=>by rw [oY (by omega),oY (by omega)];exact fV m (by omega)⟩
   rw [eF,wL,Ni,<-aP,xd,xj,xj (18446744073709551616^i)];have e:=congrArg (fun t=>18446744073709551616^i*t) s4;simp only [xA] at e;generalize 18446744073709551616^i*(18446744073709551616*y)=p1 at*
   generalize 18446744073709551616^i*(x*2^s)=p2 at*
   generalize 18446744073709551616^i*c'=p3 at*
   omega
  ·have z6:s=0:=by omega
   subst z6;have kV:c=0:=by simpa using hc
   have Ai:x/2^(64-0)=0:=wS gx;rw [Ai,xB,y8,ybx,yh] at s4
   simp only [go_sem,ya,yh,Eu,show (i:Int)<w.length by omega,ex,cM 0 0 (show i<n by omega),yf,ec,o1,o2,ku (l:=out) (o:=i) (by omega),show ¬(0:Int)<((0:Nat):Int) by omega,show (i:Int)+1=((i+1:Nat):Int) from rfl,wrapN (n:=i+1) (by omega)];refine ⟨_,k-1,rfl,by omega,i+1,out.set i c',by simp only [go_sem,ya,yb,ax,au hv.pu,ay _ hv.pu]<;>rfl,by omega,by simp [hlen],mr bi s1,?_,by rw [oY (by omega),hz];exact wO _,fun m hm=>by rw [oY (by omega)];exact fV m (by omega)⟩
   rw [ybx,yh] at aP ⊢;rw [eF,<-aP];rw [kV,xB,y8] at bc;rw [bc,s4,kV,y8]
 ·right
  have:i=w.length:=by omega
  subst this;rw [xx] at aP;simp only [go_sem,ya,Eu,show ¬(w.length:Int)<w.length by omega];exact ⟨_,_,rfl,by simp,_,out,rfl,rfl,by simp only [go_sem,ya],hlen,bi,aP⟩
def akx (h:Has P L 168 NO) {v:AV} {w:List Nat} (hv:bU v w) (hw:lo 18446744073709551616 w) (lw:w.length<=99999999999) {s:Nat} (hs:s<64):
  ∃out,aj P L 168 [v,ab s] (.bD true 1 (w.length+1) (out.map uc))/\out.length=w.length+1/\lo 18446744073709551616 out/\bv 18446744073709551616 out=bv 18446744073709551616 w*2^s:=by
 obtain ⟨n,hn⟩:∃n,n=w.length+1:=⟨_,rfl⟩;unfold aj;rw [aH h]
 simp only [go_sem,ya,yb,NO,hv.len,wrapN (n:=n) (by omega),show (w.length:Int)+1=((w.length+1:Nat):Int) from rfl,<-hn,Dd (n:=n) _ (by omega)];generalize hq:D P L (.loop [1,5,12,13,14] Eu) _=q;obtain ⟨ex,st,rfl,tm,o,rfl,rfl,t5,hlen,bi,aP⟩:=bQ hq (ax9 (P:=P) (L:=L) hv hw lw hs hn w.length)
  ⟨0,ym n 0,by simp only [go_sem,ya,yb,ax,au hv.pu,ay _ hv.pu]<;>rfl,by omega,by simp,EL (by decide) n,by rw [EM];simp [bv],by rw [Cq];exact wO _,fun m _=>Cq n m⟩
 refine ⟨o,?_,hlen,bi,aP⟩;simp only [go_sem,yb,ax,t5];exact D3 (jn _ _ _) (by simp [hlen]) (by decide)
end
end
section
open Go (IntKind)
abbrev H2 (a b:List Nat):Hp:=[(1,.cells true true true 1 (a.map uc)),(0,.cells true true true 1 (b.map uc))]
structure gN (x vs:List Nat) (n v1 v2 u0 u1 u2:Nat):Prop where
 n2:2<=n
 nb:n<=99999999999
 lx:x.length=n+1
 lv:vs.length=n
 gx:lo 18446744073709551616 x
 gv:lo 18446744073709551616 vs
 eN:vs.getD (n-1) 0=v1
 dB:vs.getD (n-2) 0=v2
 h0:x.getD n 0=u0
 h1:x.getD (n-1) 0=u1
 h2:x.getD (n-2) 0=u2
 pos:0<v1
 lt:bv 18446744073709551616 x<18446744073709551616*bv 18446744073709551616 vs
def az6 (b p a v1 v2:Nat):a+p*v2+p*b*v1=(v1*b+v2)*p+a:=by grind
def az7 (b p a v0 v1 v2:Nat):a+p*v2+p*b*v1+p*b*b*v0=((v0*b+v1)*b+v2)*p+a:=by grind
section
variable {x vs:List Nat} {n v1 v2 u0 u1 u2:Nat}
def gN.KW (h:gN x vs n v1 v2 u0 u1 u2):v1<18446744073709551616:=h.eN▸gE (by decide) h.gv _
def gN.DH (h:gN x vs n v1 v2 u0 u1 u2):v2<18446744073709551616:=h.dB▸gE (by decide) h.gv _
def gN.KX (h:gN x vs n v1 v2 u0 u1 u2):u1<18446744073709551616:=h.h1▸gE (by decide) h.gx _
def gN.KY (h:gN x vs n v1 v2 u0 u1 u2):u2<18446744073709551616:=h.h2▸gE (by decide) h.gx _
def gN.parts (h:gN x vs n v1 v2 u0 u1 u2):∃p vr ur,bv 18446744073709551616 vs=(v1*18446744073709551616+v2)*p+vr/\vr<p/\bv 18446744073709551616 x=((u0*18446744073709551616+u1)*18446744073709551616+u2)*p+ur/\ur<p:=by
 obtain ⟨m,hm⟩:∃m,n=m+2:=⟨n-2,by have:=h.n2;omega⟩;subst hm;have e1:=js (b:=18446744073709551616) (l:=vs) (m+1);have e2:=js (b:=18446744073709551616) (l:=vs) m;have f0:=js (b:=18446744073709551616) (l:=x) (m+2);have f1:=js (b:=18446744073709551616) (l:=x) (m+1);have f2:=js (b:=18446744073709551616) (l:=x) m;have eN:vs.getD (m+1) 0=v1:=h.eN;have dB:vs.getD m 0=v2:=h.dB;have h0:x.getD (m+2) 0=u0:=h.h0;have h1:x.getD (m+1) 0=u1:=h.h1;have h2:x.getD m 0=u2:=h.h2
 rw [yG (by have:=h.lv;omega),eN,e2,dB] at e1
 rw [yG (by have:=h.lx;omega),h0,f1,h1,f2,h2] at f0;have g1:=mw (AN h.gv m)
 rw [yI,xn (by have:=h.lv;omega)] at g1;have g2:=mw (AN h.gx m)
 rw [yI,xn (by have:=h.lx;omega)] at g2;refine ⟨18446744073709551616^m,_,_,?_,g1,?_,g2⟩
 ·grind
 ·grind
def gN.down (h:gN x vs n v1 v2 u0 u1 u2) {t r:Nat} (ht:t*v1+r=u0*18446744073709551616+u1) (hr:r*18446744073709551616+u2<t*v2):bv 18446744073709551616 x/bv 18446744073709551616 vs<=t-1:=by
 obtain ⟨p,vr,ur,h1,h2,h3,h4⟩:=h.parts;exact aba h1 h3 h4 ht hr
def gN.stop (h:gN x vs n v1 v2 u0 u1 u2) {t r:Nat} (ko:t<18446744073709551616) (ht:t*v1+r=u0*18446744073709551616+u1) (hr:18446744073709551616<=r\/t*v2<=r*18446744073709551616+u2):t<=bv 18446744073709551616 x/bv 18446744073709551616 vs+1:=by
 obtain ⟨p,vr,ur,h1,h2,h3,h4⟩:=h.parts;exact abY (by decide) h1 h2 h3 h.pos h.DH ko ht hr
def gN.first (h:gN x vs n v1 v2 u0 u1 u2):bv 18446744073709551616 x/bv 18446744073709551616 vs<=(u0*18446744073709551616+u1)/v1:=by
 obtain ⟨p,vr,ur,h1,h2,h3,h4⟩:=h.parts;exact Qm h1 h3 h4 h.KY h.pos
def gN.top (h:gN x vs n v1 v2 u0 u1 u2):u0<=v1:=by
 obtain ⟨p,vr,ur,h1,h2,h3,h4⟩:=h.parts;exact abZ h1 h3 h2 h.DH h.lt
def gN.digit (h:gN x vs n v1 v2 u0 u1 u2):bv 18446744073709551616 x/bv 18446744073709551616 vs<18446744073709551616:=by
 refine (we ?_).2 h.lt;rcases xk (bv 18446744073709551616 vs) with h0 | h0
 ·have:=h.lt;rw [h0] at this;simp at this
 ·exact h0
end
section
variable {P:aI} {L:Lib}
def ah7 (mE:L.pure 143=some rG) (gi:L.pure 171=some nO) {w:AV} {x vs pre post qs:List Nat} (hw:bU w vs) {n v1 v2 u0 u1 u2:Nat} (hl:gN x vs n v1 v2 u0 u1 u2):
  ∀k s,(∃q r:Nat,aS [0,1,5,6,7,8] s=⟨[(0,.aB 0 pre.length (n+1)),(1,w),(5,ab n),(6,uc q),(7,uc (r%18446744073709551616)),(8,uc (r/18446744073709551616))],H2 qs (pre++x++post),2,2⟩/\q*v1+r=u0*18446744073709551616+u1/\r<2*18446744073709551616/\q<18446744073709551616/\bv 18446744073709551616 x/bv 18446744073709551616 vs<=q/\q=k)->
   ∃ex s',D P L (.loop [0,1,5,6,7,8] zk) s=some (ex,s')/\∃tm q,s'=⟨tm,H2 qs (pre++x++post),2,2⟩/\ex= .exit 0/\ai tm 0= .aB 0 pre.length (n+1)/\ai tm 1=w/\ai tm 5=ab n/\ai tm 6=uc q/\q<18446744073709551616/\bv 18446744073709551616 x/bv 18446744073709551616 vs<=q/\q<=bv 18446744073709551616 x/bv 18446744073709551616 vs+1:=by
 intro dq sq;generalize bB:aS [0,1,5,6,7,8] sq=s0;revert bB s0 sq dq;apply dI;rintro k s ⟨q,r,rfl,hq,hr,oB,hQ,rfl⟩;have dK:=hl.n2;have pP:=hl.nb;by_cases ew:r<18446744073709551616
 ·have Gg:r%18446744073709551616=r:=yW ew;have BT:r/18446744073709551616=0:=wS ew;rw [Gg,BT];have FG:=hl.KW;have X1:=hl.DH;have aky:=hl.KY;have pW:=hw.aQ (i:=n-2) (by have:=hl.lv;omega);have eO:=hw.aQ (i:=n-1) (by have:=hl.lv;omega);rw [hl.dB] at pW;rw [hl.eN] at eO;have sG:=zy (l:=pre++x++post) (o:=pre.length+(n-2)) (by rw [oZ];have:=hl.lx;omega)
  rw [Cr (by have:=hl.lx;omega),hl.h2] at sG;have f1:=MW (P:=P) (f:=D P L) mE oB X1;have f2:=CM (P:=P) (f:=D P L) gi (x:=r) (y:=v1) (c:=0) ew FG (by omega);rw [show (uc 0)=AV.int .u64 0 from rfl] at f2;have fE:=xR (q*v2) 18446744073709551616;have bi:=xy (q*v2) (show 0<18446744073709551616 by decide);obtain ⟨H,hH⟩:∃H,H=q*v2/18446744073709551616:=⟨_,rfl⟩;obtain ⟨G,hG⟩:∃G,G=q*v2%18446744073709551616:=⟨_,rfl⟩;rw [<-hH,<-hG] at f1 fE;rw [<-hG] at bi;have Aj:(n:Int)-2=((n-2:Nat):Int):=by omega
  have pX:(n:Int)-1=((n-1:Nat):Int):=by omega
  by_cases c1:H<r
  ·right
   simp only [go_sem,ya,zk,H2,show ((0:Nat):Int)=0 from rfl,Aj,wrapN (n:=n-2) (by omega),pW,f1,show (H:Int)<(r:Int) by omega];exact ⟨_,_,rfl,by simp,_,q,rfl,rfl,by simp only [go_sem,ya],by simp only [go_sem,ya],by simp only [go_sem,ya],by simp only [go_sem,ya],oB,hQ,hl.stop oB hq (.inr (by omega))⟩
  ·by_cases c2:H=r/\G<=u2
   ·right
    obtain ⟨c2,c3⟩:=c2
    simp only [go_sem,ya,zk,H2,show ((0:Nat):Int)=0 from rfl,Aj,wrapN (n:=n-2) (by omega),pW,f1,show (H:Int)=(r:Int) by omega];simp only [show ¬(r:Int)<(r:Int) by omega,yy]
    simp only [go_sem,ya,yh,Aj,wrapN (n:=n-2) (by omega),cM 0 pre.length (show n-2<n+1 by omega),sG,show (G:Int)<=(u2:Int) by omega];exact ⟨_,_,rfl,by simp,_,q,rfl,rfl,by simp only [go_sem,ya],by simp only [go_sem,ya],by simp only [go_sem,ya],by simp only [go_sem,ya],oB,hQ,hl.stop oB hq (.inr (by omega))⟩
   ·left
    have F2:r*18446744073709551616+u2<q*v2:=by omega
    have bB:0<q:=by
     rcases xk q with h0 | h0
     ·subst h0;omega
     ·exact h0
    have e3:binOp .sub (uc q) (.int .u64 1)=some (uc (q-1)):=De (b:=1) (by omega) (by omega);have h1:(q-1)*v1+(r+v1)=u0*18446744073709551616+u1:=by
     obtain ⟨p,rfl⟩:∃p,q=p+1:=⟨q-1,by omega⟩;rw [wL,Nat.one_mul] at hq;rw [tC];omega
    have DI:=hl.down hq F2;rw [y8] at f2;by_cases c3:H=r
    ·have c4:¬G<=u2:=fun h=>c2 ⟨c3,h⟩
     subst c3
     simp only [go_sem,ya,xg,yh,zk,H2,show ((0:Nat):Int)=0 from rfl,Aj,pX,wrapN (n:=n-2) (by omega),wrapN (n:=n-1) (by omega),pW,eO,f1,f2,show ¬(H:Int)<(H:Int) by omega,cM 0 pre.length (show n-2<n+1 by omega),sG,show ¬(G:Int)<=(u2:Int) by omega,e3];refine ⟨_,q-1,rfl,by omega,q-1,H+v1,?_,h1,by omega,by omega,DI,rfl⟩;rw [qh (by simp only [go_sem,ya,yD,mu,mX,mi,mf,p9 hw.pu,vz]) (by simp only [go_sem,ya,yb,yD,au hw.pu])];simp only [go_sem,ya]
    ·simp only [go_sem,ya,xg,zk,H2,show ((0:Nat):Int)=0 from rfl,Aj,pX,wrapN (n:=n-2) (by omega),wrapN (n:=n-1) (by omega),pW,eO,f1,f2,show ¬(H:Int)<(r:Int) by omega,show ¬(H:Int)=(r:Int) by omega,e3];refine ⟨_,q-1,rfl,by omega,q-1,r+v1,?_,h1,by omega,by omega,DI,rfl⟩;rw [qh (by simp only [go_sem,ya,yD,mu,mX,mi,mf,p9 hw.pu,vz]) (by simp only [go_sem,ya,yb,yD,au hw.pu])];simp only [go_sem,ya]
 ·right
  have BT:r/18446744073709551616=1:=by omega
  rw [BT];simp only [go_sem,ya,zk,H2,show ((1:Nat):Int)=1 from rfl,Int.reduceEq];exact ⟨_,_,rfl,by simp,_,q,rfl,rfl,by simp only [go_sem,ya],by simp only [go_sem,ya],by simp only [go_sem,ya],by simp only [go_sem,ya],oB,hQ,hl.stop oB hq (.inl (by omega))⟩
end
end
section
open Go (IntKind)
def aql {b p x y z nE c bo Ak ca q v X Y:Nat} (h1:q*v+c=b*ca+nE) (h2:z+nE+bo=x+b*Ak) (h3:Y+q*X=y+p*(c+bo)) (W:Nat) (hW:W+p*x=Y+p*z):
  W+q*(X+p*v)=y+p*b*(ca+Ak):=by grind
def aqm {q v c:Nat} (hq:q<18446744073709551616) (hv:v<18446744073709551616) (hc:c<18446744073709551616):
  q*v+c=18446744073709551616*(q*v/18446744073709551616+(q*v%18446744073709551616+c+0)/18446744073709551616)+(q*v%18446744073709551616+c+0)%18446744073709551616/\
  q*v/18446744073709551616+(q*v%18446744073709551616+c+0)/18446744073709551616<18446744073709551616:=by
 have h:=wZ (show q<=18446744073709551615 by omega) (show v<=18446744073709551615 by omega)
 grind
section
variable {P:aI} {L:Lib}
def aya (mE:L.pure 143=some rG) (gi:L.pure 171=some nO) (rZ:L.pure 173=some AQ) {w:AV} {x vs pre post qs:List Nat} (hw:bU w vs) {n:Nat} (pP:n<=99999999999) (lv:vs.length=n) (gv:lo 18446744073709551616 vs) {q:Nat} (hq:q<18446744073709551616):
  ∀k s,(∃(i c bo:Nat) (y:List Nat),aS [0,1,5,6,11,12,104,105] s=⟨[(0,.aB 0 pre.length (n+1)),(1,w),(5,ab n),(6,uc q),(11,uc bo),(12,uc c),(104,ab n),(105,ab i)],H2 qs (pre++y++post),2,2⟩/\i+k=n/\y.length=n+1/\lo 18446744073709551616 y/\c<18446744073709551616/\bo<=1/\
    bv 18446744073709551616 y+q*bv 18446744073709551616 (vs.take i)=bv 18446744073709551616 x+18446744073709551616^i*(c+bo))->
   ∃ex s',D P L (.loop [0,1,5,6,11,12,104,105] Iz) s=some (ex,s')/\∃tm c bo y,s'=⟨tm,H2 qs (pre++y++post),2,2⟩/\ex= .exit 2/\ai tm 0= .aB 0 pre.length (n+1)/\ai tm 1=w/\ai tm 5=ab n/\ai tm 6=uc q/\ai tm 11=uc bo/\ai tm 12=uc c/\y.length=n+1/\lo 18446744073709551616 y/\c<18446744073709551616/\bo<=1/\
    bv 18446744073709551616 y+q*bv 18446744073709551616 vs=bv 18446744073709551616 x+18446744073709551616^n*(c+bo):=by
 intro dq sq;generalize bB:aS [0,1,5,6,11,12,104,105] sq=s0;revert bB s0 sq dq;apply dI;rintro k s ⟨i,c,bo,y,rfl,hk,ly,gy,hc,jj,aP⟩;by_cases hi:i<n
 ·left
  have dU:(0:Nat)<18446744073709551616:=by decide
  have qY:=gE dU gv i;have pZ:=gE dU gy i;have ev:=hw.aQ (i:=i) (by omega);have ey:=zy (l:=pre++y++post) (o:=pre.length+i) (by rw [oZ];omega);rw [Cr (by omega)] at ey;have eF:=js (b:=18446744073709551616) (l:=vs) i;obtain ⟨a,ha⟩:∃a,a=vs.getD i 0:=⟨_,rfl⟩;obtain ⟨d,hd⟩:∃d,d=y.getD i 0:=⟨_,rfl⟩;rw [<-ha] at qY ev eF;rw [<-hd] at pZ ey;obtain ⟨m1,m2⟩:=aqm hq qY hc;have f1:=MW (P:=P) (f:=D P L) mE hq qY;have f2:=CM (P:=P) (f:=D P L) gi (x:=q*a%18446744073709551616) (y:=c) (c:=0) (xy _ dU) hc (by omega);obtain ⟨nE,akz⟩:∃t,t=(q*a%18446744073709551616+c+0)%18446744073709551616:=⟨_,rfl⟩;obtain ⟨c1,ef⟩:∃t,t=(q*a%18446744073709551616+c+0)/18446744073709551616:=⟨_,rfl⟩;have akA:nE<18446744073709551616:=by rw [akz];exact xy _ dU
  rw [<-akz,<-ef] at f2 m1;rw [<-ef] at m2;obtain ⟨h1,gS⟩:∃t,t=q*a/18446744073709551616:=⟨_,rfl⟩;rw [<-gS] at f1 m1 m2;rw [show (uc 0)=AV.int .u64 0 from rfl] at f2;have f3:=Sr (P:=P) (f:=D P L) rZ pZ akA jj;have kw:=Rx pZ akA jj;obtain ⟨z,hz⟩:∃t,t=(d+18446744073709551616*2-nE-bo)%18446744073709551616:=⟨_,rfl⟩;obtain ⟨b',cw⟩:∃t,t=(if nE+bo<=d then 0 else 1):=⟨_,rfl⟩;have jB:b'<=1:=by rw [cw];split<;>omega
  have Gf:z<18446744073709551616:=by rw [hz];exact xy _ dU
  rw [<-hz,<-cw] at f3 kw;have f4:binOp .add (uc h1) (uc c1)=some (uc (h1+c1)):=by
   rw [A9,yW m2]
  have bc:=nQ (b:=18446744073709551616) (l:=y) (i:=i) (x:=z) (by omega);rw [<-hd] at bc;have aR:=fun (hp:Hp) (ct:Nat)=>ku (hp:=hp) (ct:=ct) (id:=0) (v:=z) (ex:=true) (l:=pre++y++post) (o:=pre.length+i) (by rw [oZ];omega)
  have n5:=MD (pre:=pre) (x:=y) (post:=post) (i:=i) z (by omega);simp only [go_sem,ya,yh,Iz,H2,show (i:Int)<(n:Int) by omega,ev,f1,f2,f4,cM 0 pre.length (show i<n+1 by omega),ey,f3,aR,n5];refine ⟨_,k-1,rfl,by omega,i+1,h1+c1,b',y.set i z,?_,by omega,by simp [ly],mr gy Gf,m2,jB,?_⟩
  ·rw [qh (by simp only [go_sem,ya,yD,mu,mX,mi,mf,p9 hw.pu,vz]) (by simp only [go_sem,ya,yb,yD,au hw.pu])];rw [wrap64 (by omega) (by omega)];simp only [go_sem,ya]<;>rfl
  ·rw [eF,xd];exact aql m1 kw aP _ bc
 ·right
  have:i=n:=by omega
  subst this;rw [yG (by omega)] at aP;simp only [go_sem,ya,Iz,H2,show ¬(i:Int)<(i:Int) by omega];exact ⟨_,_,rfl,by simp,_,c,bo,y,rfl,rfl,by simp only [go_sem,ya],by simp only [go_sem,ya],by simp only [go_sem,ya],by simp only [go_sem,ya],by simp only [go_sem,ya],by simp only [go_sem,ya],ly,gy,hc,jj,aP⟩
def ayb (gi:L.pure 171=some nO) {w:AV} {y0 vs pre post qs:List Nat} (hw:bU w vs) {n:Nat} (pP:n<=99999999999) (lv:vs.length=n) (gv:lo 18446744073709551616 vs) {q:Nat}:
  ∀k s,(∃(i c:Nat) (y:List Nat),aS [0,1,5,6,17,156,157] s=⟨[(0,.aB 0 pre.length (n+1)),(1,w),(5,ab n),(6,uc q),(17,uc c),(156,ab n),(157,ab i)],H2 qs (pre++y++post),2,2⟩/\i+k=n/\y.length=n+1/\lo 18446744073709551616 y/\c<=1/\
    bv 18446744073709551616 y+18446744073709551616^i*c=bv 18446744073709551616 y0+bv 18446744073709551616 (vs.take i))->
   ∃ex s',D P L (.loop [0,1,5,6,17,156,157] IA) s=some (ex,s')/\∃tm c y,s'=⟨tm,H2 qs (pre++y++post),2,2⟩/\ex= .exit 4/\ai tm 0= .aB 0 pre.length (n+1)/\ai tm 5=ab n/\ai tm 6=uc q/\ai tm 17=uc c/\y.length=n+1/\lo 18446744073709551616 y/\c<=1/\
    bv 18446744073709551616 y+18446744073709551616^n*c=bv 18446744073709551616 y0+bv 18446744073709551616 vs:=by
 intro dq sq;generalize bB:aS [0,1,5,6,17,156,157] sq=s0;revert bB s0 sq dq;apply dI;rintro k s ⟨i,c,y,rfl,hk,ly,gy,hc,aP⟩;by_cases hi:i<n
 ·left
  have dU:(0:Nat)<18446744073709551616:=by decide
  have qY:=gE dU gv i;have pZ:=gE dU gy i;have ev:=hw.aQ (i:=i) (by omega);have ey:=zy (l:=pre++y++post) (o:=pre.length+i) (by rw [oZ];omega);rw [Cr (by omega)] at ey;have eF:=js (b:=18446744073709551616) (l:=vs) i;obtain ⟨a,ha⟩:∃a,a=vs.getD i 0:=⟨_,rfl⟩;obtain ⟨d,hd⟩:∃d,d=y.getD i 0:=⟨_,rfl⟩;rw [<-ha] at qY ev eF;rw [<-hd] at pZ ey;have f1:=CM (P:=P) (f:=D P L) gi pZ qY hc;have bc:=nQ (b:=18446744073709551616) (l:=y) (i:=i) (x:=(d+a+c)%18446744073709551616) (by omega);rw [<-hd] at bc;have gU:=LI (18446744073709551616^i) 18446744073709551616 (d+a+c);have kY:(d+a+c)/18446744073709551616<=1:=by omega
  have Gf:(d+a+c)%18446744073709551616<18446744073709551616:=xy _ dU;generalize (d+a+c)%18446744073709551616=z at*
  generalize (d+a+c)/18446744073709551616=c' at*
  have aR:=fun (hp:Hp) (ct:Nat)=>ku (hp:=hp) (ct:=ct) (id:=0) (v:=z) (ex:=true) (l:=pre++y++post) (o:=pre.length+i) (by rw [oZ];omega)
  have n5:=MD (pre:=pre) (x:=y) (post:=post) (i:=i) z (by omega);simp only [go_sem,ya,yh,IA,H2,show (i:Int)<(n:Int) by omega,ev,f1,cM 0 pre.length (show i<n+1 by omega),ey,aR,n5];refine ⟨_,k-1,rfl,by omega,i+1,c',y.set i z,?_,by omega,by simp [ly],mr gy Gf,kY,?_⟩
  ·rw [qh (by simp only [go_sem,ya,yD,mu,mX,mi,mf,p9 hw.pu,vz]) (by simp only [go_sem,ya,yb,yD,au hw.pu])];rw [wrap64 (by omega) (by omega)];simp only [go_sem,ya]<;>rfl
  ·rw [eF,xd];rw [xA,xA] at gU;omega
 ·right
  have:i=n:=by omega
  subst this;rw [yG (by omega)] at aP;simp only [go_sem,ya,IA,H2,show ¬(i:Int)<(i:Int) by omega];exact ⟨_,_,rfl,by simp,_,c,y,rfl,rfl,by simp only [go_sem,ya],by simp only [go_sem,ya],by simp only [go_sem,ya],by simp only [go_sem,ya],ly,gy,hc,aP⟩
end
end
section
open Go (IntKind)
def step_end {A V q Y B bo:Nat} (hV:0<V) (h:Y+q*V=A+B*bo) (h1:A/V<=q) (h2:q<=A/V+1) (hY:Y<B) (hVB:V<=B) (jj:bo<=1):
  (bo=0->q=A/V/\Y=A%V)/\(bo=1->q=A/V+1/\Y+V=B+A%V):=by
 have fE:=xR A V;have hm:=xy A hV;generalize A/V=Q at*
 have hq:q=Q\/q=Q+1:=by omega
 constructor
 ·rintro rfl;rcases hq with rfl | rfl
  ·grind
  ·grind
 ·grind
section
variable {P:aI} {L:Lib}
structure Wd (P:aI) (L:Lib):Prop where
 mE:L.pure 143=some rG
 gi:L.pure 171=some nO
 rZ:L.pure 173=some AQ
 J5:L.pure 167=some EU
 akB:Has P L 165 Jr
 mD:Has P L 166 Bh
 akC:Has P L 168 NO
 aBo:Has P L 169 rS
 akD:Has P L 158 Fa
 aBp:Has P L 157 Jq
 akE:Has P L 159 NM
 aBq:Has P L 144 NJ
 X2:Has P L 137 Jo
def aC:VC->VC
 | .seq _ b=>b
 | c=>c
def ayc (h:Wd P L) {w:AV} {x vs pre post qs:List Nat} (hw:bU w vs) {n v1 v2 u0 u1 u2:Nat} (hl:gN x vs n v1 v2 u0 u1 u2) {q:Nat} (hq:q<18446744073709551616) (fw:bv 18446744073709551616 x/bv 18446744073709551616 vs<=q) (Gh:q<=bv 18446744073709551616 x/bv 18446744073709551616 vs+1):
  ∃tm x',D P L (aC (aC (aC (aC (aC (aC rS.body)))))) ⟨[(0,.aB 0 pre.length (n+1)),(1,w),(5,ab n),(6,uc q)],H2 qs (pre++x++post),2,2⟩=some (.ret,⟨tm,H2 qs (pre++x'++post),2,2⟩)/\ai tm 4=uc (bv 18446744073709551616 x/bv 18446744073709551616 vs)/\x'.length=n+1/\lo 18446744073709551616 x'/\bv 18446744073709551616 x'=bv 18446744073709551616 x%bv 18446744073709551616 vs:=by
 have dK:=hl.n2;have pP:=hl.nb;have dU:(0:Nat)<18446744073709551616:=by decide
 have hV:0<bv 18446744073709551616 vs:=by
  rcases xk (bv 18446744073709551616 vs) with h0 | h0
  ·have:=hl.lt;rw [h0] at this;simp at this
  ·exact h0
 have sH:below 2 w:=p9 hw.pu;have KZ:=mw hl.gv;rw [hl.lv] at KZ;have aHS:18446744073709551616^n<=18446744073709551616^(n+1):=xh (by decide) (by omega);have aHT:aC (aC (aC (aC (aC (aC rS.body)))))=aC (aC (aC (aC (aC (aC rS.body))))):=rfl;simp only [go_sem,ya,rS,aC,H2];generalize mR:D P L (.loop [0,1,5,6,11,12,104,105] Iz) _=qq;obtain ⟨ex,s,rfl,tm,c,bo,y,rfl,rfl,t0,t1,t5,t6,t11,t12,ly,gy,hc,jj,aP⟩:=bQ mR (aya (P:=P) (L:=L) h.mE h.gi h.rZ hw pP hl.lv hl.gv hq (x:=x) (pre:=pre) (post:=post) (qs:=qs) n) ⟨0,0,0,x,by
  rw [qh (by simp only [go_sem,ya,yD,mu,mX,mi,mf,sH,vz]) (by simp only [go_sem,ya,yb,yD,au hw.pu])]
  simp only [go_sem,ya]<;>rfl,by omega,hl.lx,hl.gx,dU,by omega,by simp [bv]⟩
 have Zw:=gE dU gy n;have ey:=zy (l:=pre++y++post) (o:=pre.length+n) (by rw [oZ];omega);rw [Cr (by omega)] at ey;obtain ⟨d,hd⟩:∃d,d=y.getD n 0:=⟨_,rfl⟩;rw [<-hd] at Zw ey;have f3:=Sr (P:=P) (f:=D P L) h.rZ Zw hc jj;have kw:=Rx Zw hc jj;obtain ⟨z,hz⟩:∃t,t=(d+18446744073709551616*2-c-bo)%18446744073709551616:=⟨_,rfl⟩;obtain ⟨b',cw⟩:∃t,t=(if c+bo<=d then 0 else 1):=⟨_,rfl⟩;have jB:b'<=1:=by rw [cw];split<;>omega
 have Gf:z<18446744073709551616:=by rw [hz];exact xy _ dU
 rw [<-hz,<-cw] at f3 kw;have bc:=nQ (b:=18446744073709551616) (l:=y) (i:=n) (x:=z) (by omega);rw [<-hd] at bc;have aR:=fun (hp:Hp) (ct:Nat)=>ku (hp:=hp) (ct:=ct) (id:=0) (v:=z) (ex:=true) (l:=pre++y++post) (o:=pre.length+n) (by rw [oZ];omega)
 have n5:=MD (pre:=pre) (x:=y) (post:=post) (i:=n) z (by omega);have DJ:lo 18446744073709551616 (y.set n z):=mr gy Gf;have BU:(y.set n z).length=n+1:=by simp [ly]
 have hY:=mw DJ;rw [BU] at hY;have aBr:bv 18446744073709551616 (y.set n z)+q*bv 18446744073709551616 vs=bv 18446744073709551616 x+18446744073709551616^(n+1)*b':=by
  have e2:=congrArg (fun t=>18446744073709551616^n*t) kw;rw [xd,xj];simp only [xA] at e2 aP;generalize 18446744073709551616^n*(18446744073709551616*b')=p1 at*
  generalize 18446744073709551616^n*z=p2 at*
  generalize 18446744073709551616^n*d=p3 at*
  generalize 18446744073709551616^n*c=p4 at*
  generalize 18446744073709551616^n*bo=p5 at*
  omega
 obtain ⟨s0,s1⟩:=step_end hV aBr fw Gh hY (by omega) jB;simp only [go_sem,ya,yb,yD,yh,qh,mu,mX,mi,mf,sH,vz,au hw.pu,t0,t1,t5,t6,t11,t12,cM 0 pre.length (show n<n+1 by omega),ey,f3,aR,n5];by_cases kv:b'=0
 ·obtain ⟨e1,e2⟩:=s0 kv;simp only [go_sem,ya,show (b':Int)=0 by omega];exact ⟨_,y.set n z,rfl,by rw [<-e1];simp only [go_sem],BU,DJ,e2⟩
 ·obtain ⟨e1,e2⟩:=s1 (by omega);simp only [go_sem,ya,show ¬(b':Int)=0 by omega];generalize Df:D P L (.loop [0,1,5,6,17,156,157] IA) _=Zv;obtain ⟨ex,s,rfl,sd,c2,y2,rfl,rfl,t0,t5,t6,t17,Zx,PP,su,az8⟩:=bQ Df (ayb (P:=P) (L:=L) h.gi hw pP hl.lv hl.gv (y0:=y.set n z) (pre:=pre) (post:=post) (qs:=qs) (q:=q) n) ⟨0,0,y.set n z,by
   rw [qh (by simp only [go_sem,ya,yD,mu,mX,mi,mf,sH,vz]) (by simp only [go_sem,ya,yb,yD,au hw.pu])]
   simp only [go_sem,ya]<;>rfl,by omega,BU,DJ,by omega,by simp [bv]⟩
  have aBs:=gE dU PP n;have Zy:=zy (l:=pre++y2++post) (o:=pre.length+n) (by rw [oZ];omega);rw [Cr (by omega)] at Zy;obtain ⟨d2,fq⟩:∃d,d=y2.getD n 0:=⟨_,rfl⟩;rw [<-fq] at aBs Zy;have f4:=A9 d2 c2;have Ni:=nQ (b:=18446744073709551616) (l:=y2) (i:=n) (x:=(d2+c2)%18446744073709551616) (by omega);rw [<-fq] at Ni;have gU:=LI (18446744073709551616^n) 18446744073709551616 (d2+c2);have aBt:(d2+c2)%18446744073709551616<18446744073709551616:=xy _ dU;have hc3:(d2+c2)/18446744073709551616<=1:=by omega
  generalize (d2+c2)%18446744073709551616=z2 at*
  generalize (d2+c2)/18446744073709551616=c3 at*
  have OW:=fun (hp:Hp) (ct:Nat)=>ku (hp:=hp) (ct:=ct) (id:=0) (v:=z2) (ex:=true) (l:=pre++y2++post) (o:=pre.length+n) (by rw [oZ];omega)
  have Nj:=MD (pre:=pre) (x:=y2) (post:=post) (i:=n) z2 (by omega);have PQ:lo 18446744073709551616 (y2.set n z2):=mr PP aBt;have K0:(y2.set n z2).length=n+1:=by simp [Zx]
  have hY3:=mw PQ;rw [K0] at hY3;have bB:0<q:=by rw [e1];exact Nat.succ_pos _
  have Gi:bv 18446744073709551616 x/bv 18446744073709551616 vs=q-1:=by rw [e1,tC]
  have f5:binOp .sub (uc q) (.int .u64 1)=some (uc (q-1)):=De (b:=1) (by omega) (by omega);simp only [go_sem,ya,yb,yD,yh,qh,mu,mX,mi,mf,vz,t0,t5,t6,t17,cM 0 pre.length (show n<n+1 by omega),Zy,f4,OW,Nj,f5];refine ⟨_,y2.set n z2,rfl,by rw [Gi];simp only [go_sem],K0,PQ,?_⟩;have e3:bv 18446744073709551616 (y2.set n z2)+18446744073709551616^(n+1)*c3=18446744073709551616^(n+1)+bv 18446744073709551616 x%bv 18446744073709551616 vs:=by
   rw [<-e2,<-az8,xd];rw [xA] at gU;omega
  rcases (show c3=0\/c3=1 by omega) with rfl | rfl
  ·omega
  ·omega
def aBu (h:Wd P L) {w:AV} {x vs pre post qs:List Nat} (hw:bU w vs) {n v1 v2 u0 u1 u2:Nat} (hl:gN x vs n v1 v2 u0 u1 u2):
  ∃x',iL P L (D P L) (H2 qs (pre++x++post)) 2 169 [.aB 0 pre.length (n+1),w]=some (uc (bv 18446744073709551616 x/bv 18446744073709551616 vs),H2 qs (pre++x'++post),2)/\x'.length=n+1/\lo 18446744073709551616 x'/\bv 18446744073709551616 x'=bv 18446744073709551616 x%bv 18446744073709551616 vs:=by
 have dK:=hl.n2;have pP:=hl.nb;have sH:below 2 w:=p9 hw.pu;have pX:(n:Int)-1=((n-1:Nat):Int):=by omega
 have eO:=hw.aQ (i:=n-1) (by have:=hl.lv;omega);rw [hl.eN] at eO;have BV:=zy (l:=pre++x++post) (o:=pre.length+n) (by rw [oZ];have:=hl.lx;omega)
 rw [Cr (by have:=hl.lx;omega),hl.h0] at BV;have BW:=zy (l:=pre++x++post) (o:=pre.length+(n-1)) (by rw [oZ];have:=hl.lx;omega)
 rw [Cr (by have:=hl.lx;omega),hl.h1] at BW;have FG:=hl.KW;have OX:=hl.KX;have n7:=hl.top;have iY:∃tm x',D P L rS.body ⟨eh 0 [.aB 0 pre.length (n+1),w],H2 qs (pre++x++post),2,2⟩=some (.ret,⟨tm,H2 qs (pre++x'++post),2,2⟩)/\ai tm 4=uc (bv 18446744073709551616 x/bv 18446744073709551616 vs)/\x'.length=n+1/\lo 18446744073709551616 x'/\bv 18446744073709551616 x'=bv 18446744073709551616 x%bv 18446744073709551616 vs:=by
  have behind:∀(jK:Env) (q:Nat),ai jK 0= .aB 0 pre.length (n+1)->ai jK 1=w->ai jK 5=ab n->ai jK 6=uc q->q<18446744073709551616->bv 18446744073709551616 x/bv 18446744073709551616 vs<=q->q<=bv 18446744073709551616 x/bv 18446744073709551616 vs+1->
    ∃tm x',nc P L (nc P L (zu 0 (some (Ex.exit 0,⟨jK,H2 qs (pre++x++post),2,2⟩))) (.kp [0,1,5,6])) (aC (aC (aC (aC (aC (aC rS.body))))))=some (.ret,⟨tm,H2 qs (pre++x'++post),2,2⟩)/\ai tm 4=uc (bv 18446744073709551616 x/bv 18446744073709551616 vs)/\x'.length=n+1/\lo 18446744073709551616 x'/\bv 18446744073709551616 x'=bv 18446744073709551616 x%bv 18446744073709551616 vs:=by
   intro jK q t0 t1 t5 t6 g1 g2 g3;have hk:da jK [0,1,5,6]=[(0,.aB 0 pre.length (n+1)),(1,w),(5,ab n),(6,uc q)]:=by simp only [go_sem,t0,t1,t5,t6]
   rw [agw,fm,akm,qh (by rw [hk];simp only [go_sem,yD,mu,mX,mi,mf,sH,vz]) (by rw [hk];simp only [go_sem,yb,yD,au hw.pu]),fm,hk];exact ayc h hw hl g1 g2 g3
  by_cases hc:u0<v1
  ·have f1:=akw h.akB h.J5 (P:=P) (L:=L) hc OX FG;have fE:=xR (u0*18446744073709551616+u1) v1;have r7:=xy (u0*18446744073709551616+u1) hl.pos;have oB:(u0*18446744073709551616+u1)/v1<18446744073709551616:=by
    refine (we hl.pos).2 ?_
    have:=yV 18446744073709551616 (show u0+1<=v1 from hc)
    rw [xE 18446744073709551616 v1];omega
   have MX:=hl.first;rw [xE] at fE;generalize (u0*18446744073709551616+u1)/v1=q0 at*
   generalize (u0*18446744073709551616+u1)%v1=r0 at*
   simp only [go_sem,ya,yh,rS,H2,hw.len,hl.lv,pX,wrapN (n:=n-1) (by omega),eO,cM 0 pre.length (show n<n+1 by omega),cM 0 pre.length (show n-1<n+1 by omega),BV,BW,show ¬(v1:Int)<=(u0:Int) by omega,f1];generalize mR:D P L (.loop [0,1,5,6,7,8] zk) _=qq;obtain ⟨ex,s,rfl,jK,q,rfl,rfl,t0,t1,t5,t6,g1,g2,g3⟩:=bQ mR (ah7 (P:=P) (L:=L) h.mE h.gi hw hl (pre:=pre) (post:=post) (qs:=qs) q0) ⟨q0,r0,by
    rw [qh (by simp only [go_sem,ya,yD,mu,mX,mi,mf,sH,vz]) (by simp only [go_sem,ya,yb,yD,au hw.pu])];rw [yW (show r0<18446744073709551616 by omega),wS (show r0<18446744073709551616 by omega)]
    simp only [go_sem,ya]<;>rfl,fE,by omega,oB,MX,rfl⟩
   exact behind jK q t0 t1 t5 t6 g1 g2 g3
  ·have mP:u0=v1:=by omega
   have f1:=CM (P:=P) (f:=D P L) h.gi OX FG (c:=0) (by omega);rw [y8,show (uc 0)=AV.int .u64 0 from rfl] at f1;have OY:=hl.digit
   simp only [go_sem,ya,yh,rS,H2,hw.len,hl.lv,pX,wrapN (n:=n-1) (by omega),eO,cM 0 pre.length (show n<n+1 by omega),cM 0 pre.length (show n-1<n+1 by omega),BV,BW,show (v1:Int)<=(u0:Int) by omega,f1];generalize mR:D P L (.loop [0,1,5,6,7,8] zk) _=qq;obtain ⟨ex,s,rfl,jK,q,rfl,rfl,t0,t1,t5,t6,g1,g2,g3⟩:=bQ mR (ah7 (P:=P) (L:=L) h.mE h.gi hw hl (pre:=pre) (post:=post) (qs:=qs) 18446744073709551615) ⟨18446744073709551615,u1+v1,by
    rw [qh (by simp only [go_sem,ya,yD,mu,mX,mi,mf,sH,vz]) (by simp only [go_sem,ya,yb,yD,au hw.pu])]
    simp only [go_sem,ya]<;>rfl,by rw [mP];omega,by omega,by decide,by omega,rfl⟩
   exact behind jK q t0 t1 t5 t6 g1 g2 g3
 obtain ⟨tm,x',g1,g2,g3,g4,g5⟩:=iY;refine ⟨x',?_,g3,g4,g5⟩;exact agJ h.aBo g1 (.inr rfl) (by show iJ _ [RV.t 4]=_;rw [XU,SS,g2])
end
end
section
open Go (IntKind)
def WN (v:AV) (m:Nat):Prop:=∃l,bU v l/\lo 18446744073709551616 l/\gm l/\bv 18446744073709551616 l=m
def aso (i:Nat) (q:List Nat) (x:Nat):(ym (i+1) 0++q).set i x=ym i 0++x::q:=by
 rw [List.replicate_succ',xq]
 simp_all
def ME {b:Nat} {l:List Nat} {i:Nat} (h:i<l.length):bv b (l.drop i)=l.getD i 0+b*bv b (l.drop (i+1)):=by
 rw [yU h,gd h];rfl
def Su {v w:AV} {x y:List Nat} (hv:bU v x) (hw:bU w y) (hp:Hp):result hp (.ae [v,w])=some (.ae [v,w]):=by
 rcases hv with ⟨rfl,_⟩ | ⟨e,rfl⟩<;>rcases hw with ⟨rfl,_⟩ | ⟨e',rfl⟩<;>rfl
def auy {hp:Hp} {id n l h:Nat} {pu ex:Bool} {cs:List AV} {tm:Env} {x y:X} (hg:aq hp id=some (.cells true pu ex 1 cs)) (hx:cY tm 0 (some x)=some l) (hy:cY tm n (some y)=some h) (h1:l<h) (h2:h<=n):
  eV hp (.sl 1) (.aB id 0 n) tm (some x) (some y)=some (.aB id l (h-l)):=by
 simp only [eV,hg,hx,hy,yo (uU h1),yo h2,wV,xM,yA,fW (Nat.ne_of_lt h1),xX,yS,yf,yh]
def ada {hp:Hp} {id n h:Nat} {pu ex:Bool} {cs:List AV} {tm:Env} {y:X} (hg:aq hp id=some (.cells true pu ex 1 cs)) (hy:cY tm n (some y)=some h) (h1:0<h) (h2:h<=n):
  eV hp (.sl 1) (.aB id 0 n) tm none (some y)=some (.aB id 0 h):=by
 have hx:cY tm 0 none=some 0:=rfl;simp only [eV,hg,hx,hy,yo (ud h),yo h2,wV,xM,yA,fW (show (0:Nat)≠h by omega),xX,yS,tN,y8,Nat.sub_zero]
def aiU (P:aI) (L:Lib) (f:cA) (hp:Hp) (ct n:Nat) (xs:List AV):eJ P L f hp ct .heap (.fn (.f n) [] []) xs=iL P L f hp ct n xs:=by
 simp only [eJ,xG,wD]
section
variable {P:aI} {L:Lib}
def ayd (h:Wd P L) {v w:AV} {x:List Nat} (hv:bU v x) (hx:lo 18446744073709551616 x) (lx:x.length<=99999999999) {d:Nat} (hw:bU w [d]) (gA:0<d) (Zz:d<18446744073709551616) {n:Nat} (hn:n=x.length):
  ∀k s,(∃(i r:Nat) (q:List Nat),aS [0,1,6,7,8] s=⟨[(0,v),(1,w),(6,.aB 0 0 n),(7,uc r),(8,ab ((i:Int)-1))],[(0,.cells true true true 1 ((ym i 0++q).map uc))],1,0⟩/\i=k/\i+q.length=n/\lo 18446744073709551616 q/\r<d/\bv 18446744073709551616 (x.drop i)=bv 18446744073709551616 q*d+r)->
   ∃ex s',D P L (.loop [0,1,6,7,8] Iv) s=some (ex,s')/\∃tm r q,s'=⟨tm,[(0,.cells true true true 1 (q.map uc))],1,0⟩/\ex= .exit 0/\ai tm 6= .aB 0 0 n/\ai tm 7=uc r/\q.length=n/\lo 18446744073709551616 q/\r<d/\bv 18446744073709551616 x=bv 18446744073709551616 q*d+r:=by
 intro dq sq;generalize bB:aS [0,1,6,7,8] sq=s0;revert bB s0 sq dq;apply dI;rintro k s ⟨i,r,q,rfl,rfl,hlen,bi,hr,aP⟩
 cases i with
 | zero=>
  right
  simp only [go_sem,ya,Iv,show ¬(0:Int)<=((0:Nat):Int)-1 by omega];exact ⟨_,_,rfl,by simp,_,r,q,rfl,rfl,by simp only [go_sem,ya],by simp only [go_sem,ya],by omega,bi,hr,by simpa using aP⟩
 | succ i=>
  left
  have gx:=gE (show 0<18446744073709551616 by decide) hx i;have e1:=hv.aQ (i:=i) (by omega);have e2:=hw.aQ (i:=0) (by simp);have ik:=ME (b:=18446744073709551616) (l:=x) (i:=i) (by omega);rw [show ([d]:List Nat).getD 0 0=d from rfl] at e2;generalize x.getD i 0=a at*
  have e3:=akw (P:=P) (L:=L) h.akB h.J5 hr gx Zz;have fE:=xR (r*18446744073709551616+a) d;have r7:=xy (r*18446744073709551616+a) gA;have oB:(r*18446744073709551616+a)/d<18446744073709551616:=by
   refine (we gA).2 ?_;omega
  generalize (r*18446744073709551616+a)/d=q1 at*
  generalize (r*18446744073709551616+a)%d=r1 at*
  have aR:=fun (hp:Hp) (ct:Nat)=>ku (hp:=hp) (ct:=ct) (id:=0) (v:=q1) (ex:=true) (l:=ym (i+1) 0++q) (o:=i) (by simp;omega)
  simp only [go_sem,ya,yh,Iv,show ((i+1:Nat):Int)-1=(i:Int) by omega,show (0:Int)<=(i:Int) by omega,e1,e2,e3,cM 0 0 (show i<n by omega),yf,aR,aso];refine ⟨_,i,rfl,by omega,i,r1,q1::q,?_,rfl,by simp;omega,LW.2 ⟨EK.2 oB,bi⟩,r7,?_⟩
  ·rw [wrap64 (by omega) (by omega)];simp only [go_sem,ya,yb,ax,au hv.pu,ay _ hv.pu,au hw.pu,ay _ hw.pu]<;>rfl
  ·rw [ik,aP];simp only [bv];rw [wL,xA,<-xj 18446744073709551616];rw [xE d q1] at fE;omega
def aqn {s u u1:Nat} (hs:s<64) (hu:u<18446744073709551616):u/2^s<18446744073709551616/\(0<s->u/2^s|||(u1*2^(64-s)%18446744073709551616)<18446744073709551616)/\
  (if 0<s then (u/2^s|||(u1*2^(64-s)%18446744073709551616)) else u/2^s)*2^s+u%2^s=u+18446744073709551616*(u1%2^s):=by
 have e:18446744073709551616=2^s*2^(64-s):=by rw [<-wR,show s+(64-s)=64 by omega]
 have h1:u1*2^(64-s)%18446744073709551616=(u1%2^s)*2^(64-s):=by rw [e,vP]
 have hp:=wO s;have h2:u/2^s<2^(64-s):=by
  refine (we hp).2 ?_
  grind
 have h3:u/2^s|||(u1*2^(64-s)%18446744073709551616)=(u1%2^s)*2^(64-s)+u/2^s:=by rw [h1,ybH,Ss h2]
 have h4:(u1%2^s)*2^(64-s)+u/2^s<18446744073709551616:=by
  have:=yV (2^(64-s)) (show u1%2^s+1<=2^s from xy _ hp)
  grind
 have h5:=tv u (2^s)
 grind
def aye {us qs:List Nat} {n la m s:Nat} (hs:s<64) (lu:us.length=la) (gu:lo 18446744073709551616 us) (hn:n<la) (K1:la<=100000000000):
  ∀k st,(∃(i:Nat) (rs:List Nat),aS [9,11,12,13,96,97] st=⟨[(9,ab s),(11,.aB 0 0 la),(12,ab n),(13,.aB 1 0 m),(96,ab n),(97,ab i)],H2 qs (rs++us.drop i),2,0⟩/\i+k=n/\rs.length=i/\lo 18446744073709551616 rs/\bv 18446744073709551616 rs*2^s+us.getD 0 0%2^s=bv 18446744073709551616 (us.take i)+18446744073709551616^i*(us.getD i 0%2^s))->
   ∃ex st',D P L (.loop [9,11,12,13,96,97] Es) st=some (ex,st')/\∃tm rs,st'=⟨tm,H2 qs (rs++us.drop n),2,0⟩/\ex= .exit 4/\ai tm 11= .aB 0 0 la/\ai tm 12=ab n/\ai tm 13= .aB 1 0 m/\rs.length=n/\lo 18446744073709551616 rs/\bv 18446744073709551616 rs*2^s+us.getD 0 0%2^s=bv 18446744073709551616 (us.take n)+18446744073709551616^n*(us.getD n 0%2^s):=by
 intro dq sq;generalize bB:aS [9,11,12,13,96,97] sq=s0;revert bB s0 sq dq;apply dI;rintro k st ⟨i,rs,rfl,hk,lr,gr,aP⟩;by_cases hi:i<n
 ·left
  have dU:(0:Nat)<18446744073709551616:=by decide
  have g0:=gE dU gu i;have g1:=gE dU gu (i+1);have d0:us.drop i=us.getD i 0::us.getD (i+1) 0::us.drop (i+2):=by
   rw [yU (show i<us.length by omega),yU (show i+1<us.length by omega),gd,gd]
  have eF:=js (b:=18446744073709551616) (l:=us) i;have iV:∀r,r<18446744073709551616->r*2^s+us.getD i 0%2^s=us.getD i 0+18446744073709551616*(us.getD (i+1) 0%2^s)->lo 18446744073709551616 (rs++[r])/\bv 18446744073709551616 (rs++[r])*2^s+us.getD 0 0%2^s=bv 18446744073709551616 (us.take (i+1))+18446744073709551616^(i+1)*(us.getD (i+1) 0%2^s):=fun r h1 h2=>by
   refine ⟨LW.2 ⟨gr,EK.2 h1⟩,?_⟩;rw [rn,AU,lr,eF,wL,xd,xj,xj];have e2:=congrArg (fun t=>18446744073709551616^i*t) h2;simp only [xA] at e2;generalize 18446744073709551616^i*(r*2^s)=p1 at*
   generalize 18446744073709551616^i*(us.getD i 0%2^s)=p2 at*
   generalize 18446744073709551616^i*us.getD i 0=p3 at*
   generalize 18446744073709551616^i*(18446744073709551616*(us.getD (i+1) 0%2^s))=p4 at*
   omega
  have X3:us.drop (i+1)=us.getD (i+1) 0::us.drop (i+2):=by
   rw [yU (show i+1<us.length by omega),gd]
  generalize us.getD i 0=a at*
  obtain ⟨c,hc⟩:∃c,c=us.getD (i+1) 0:=⟨_,rfl⟩;rw [<-hc] at g1 d0 X3 iV;generalize us.drop (i+2)=dr at*
  rw [d0];obtain ⟨n1,n2,n3⟩:=aqn (u1:=c) hs g0;have o1:=J4 .i64 a (s:=s) (by omega);have o2:=JZ .i64 c (s:=64-s) (by omega);have o3:binOp .sub (.int .i64 64) (ab s)=some (ab (64-s:Nat)):=by
   rw [MA,wrap64 (by omega) (by omega)];congr 2;omega
  have o4:=Zq n1 (xy (c*2^(64-s)) dU);have sa:∀z y,(rs++z::y).set i a=rs++a::y:=fun z y=>by rw [tX _ _ (by omega),lr];simp
  have e0:∀z y,ui i ((rs++z::y).map uc)=uc z::y.map uc:=fun z y=>by
   rw [xu,uD (by simp [lr])];rfl
  have e1:∀z y u,ui (i+1) ((rs++z::y::u).map uc)=uc y::u.map uc:=fun z y u=>by
   rw [show rs++z::y::u=(rs++[z])++y::u by simp,xu,uD (by simp [lr])];rfl
  have je:∀(hp:Hp) (ct x z:Nat) (y:List Nat),ji hp ct 0 i 1 [.int .u64 (x:Int)] (some (.cells true true true 1 ((rs++z::y).map uc)))=some (.ae [],bc hp 0 (.cells true true true 1 ((rs++x::y).map uc)),ct):=fun hp ct x z y=>by
   rw [ku (by simp;omega),tX _ _ (by omega),lr];simp
  by_cases h0:0<s
  ·rw [yQ h0] at n3;obtain ⟨f1,f2⟩:=iV _ (n2 h0) n3;generalize a/2^s=a1 at*
   generalize a1|||(c*2^(64-s)%18446744073709551616)=r at*
   simp only [go_sem,ya,yh,Es,H2,show (i:Int)<(n:Int) by omega,cM 0 0 (show i<la by omega),yf,e0,o1,je,show (0:Int)<(s:Int) by omega,show (i:Int)+1=((i+1:Nat):Int) from rfl,wrapN (n:=i+1) (by omega),show ((i+1:Nat):Int)<(la:Int) by omega,cM 0 0 (show i+1<la by omega),e1,o3,o2,o4];refine ⟨_,k-1,rfl,by omega,i+1,rs++[r],by simp only [go_sem,ya,yb,ax];rw [X3];simp,by omega,by simp [lr],f1,by rw [<-hc];exact f2⟩
  ·rw [yB h0] at n3;obtain ⟨f1,f2⟩:=iV _ n1 n3;generalize a/2^s=a1 at*
   simp only [go_sem,ya,yh,Es,H2,show (i:Int)<(n:Int) by omega,cM 0 0 (show i<la by omega),yf,e0,o1,je,show ¬(0:Int)<(s:Int) by omega,show (i:Int)+1=((i+1:Nat):Int) from rfl,wrapN (n:=i+1) (by omega)];refine ⟨_,k-1,rfl,by omega,i+1,rs++[a1],by simp only [go_sem,ya,yb,ax];rw [X3];simp,by omega,by simp [lr],f1,by rw [<-hc];exact f2⟩
 ·right
  have:i=n:=by omega
  subst this;simp only [go_sem,ya,Es,H2,show ¬(i:Int)<(i:Int) by omega];exact ⟨_,_,rfl,by simp,_,rs,rfl,rfl,by simp only [go_sem,ya],by simp only [go_sem,ya],by simp only [go_sem,ya],lr,gr,aP⟩
end
end
section
open Go (IntKind)
def aca {b p A V bu bq0 U0 pre:Nat} (h1:bu=pre+p*A) (h2:bu+bq0*V=U0):(pre+p*(A%V))+(bq0+p*(A/V))*V=U0:=by
 have fE:=xR A V
 grind
def az9 (hp:Hp) (ct:Nat) (ex:Bool) (sz n:Nat) (cs:List AV):own hp ct (.bD ex sz n cs)=(.aB ct 0 n,(ct,.cells true true ex sz cs)::hp,ct+1):=rfl
section
variable {P:aI} {L:Lib}
def ayf (h:Wd P L) {w:AV} {vs:List Nat} (hw:bU w vs) (gv:lo 18446744073709551616 vs) {n la m:Nat} (lv:vs.length=n) (dK:2<=n) (BK:n<=la) (K1:la<=99999999999) (hm:m=la-n+1) (eN:0<vs.getD (n-1) 0) {s U0:Nat}:
  ∀k st,(∃(j:Nat) (us qs:List Nat),aS [9,10,11,12,13,14] st=⟨[(9,ab s),(10,w),(11,.aB 0 0 (la+1)),(12,ab n),(13,.aB 1 0 m),(14,ab ((j:Int)-1))],H2 qs us,2,0⟩/\j=k/\j<=m/\us.length=la+1/\qs.length=m/\lo 18446744073709551616 us/\lo 18446744073709551616 qs/\(∀i,i<j->qs.getD i 0=0)/\
    bv 18446744073709551616 us+bv 18446744073709551616 qs*bv 18446744073709551616 vs=U0/\bv 18446744073709551616 (us.drop j)<bv 18446744073709551616 vs)->
   ∃ex st',D P L (.loop [9,10,11,12,13,14] Iw) st=some (ex,st')/\∃tm us qs,st'=⟨tm,H2 qs us,2,0⟩/\ex= .exit 2/\ai tm 9=ab s/\ai tm 11= .aB 0 0 (la+1)/\ai tm 12=ab n/\ai tm 13= .aB 1 0 m/\us.length=la+1/\qs.length=m/\lo 18446744073709551616 us/\lo 18446744073709551616 qs/\
    bv 18446744073709551616 us+bv 18446744073709551616 qs*bv 18446744073709551616 vs=U0/\bv 18446744073709551616 us<bv 18446744073709551616 vs:=by
 intro dq sq;generalize bB:aS [9,10,11,12,13,14] sq=s0;revert bB s0 sq dq;apply dI;rintro k st ⟨j,us,qs,rfl,rfl,hj,lu,lq,gu,gq,hz,aP,n7⟩
 cases j with
 | zero=>
  right
  simp only [go_sem,ya,Iw,H2,show ¬(0:Int)<=((0:Nat):Int)-1 by omega];exact ⟨_,_,rfl,by simp,_,us,qs,rfl,rfl,by simp only [go_sem,ya],by simp only [go_sem,ya],by simp only [go_sem,ya],by simp only [go_sem,ya],lu,lq,gu,gq,aP,by simpa using n7⟩
 | succ j=>
  left
  have dU:(0:Nat)<18446744073709551616:=by decide
  obtain ⟨pre,eR⟩:∃p,p=us.take j:=⟨_,rfl⟩;obtain ⟨x,hx⟩:∃p,p=(us.drop j).take (n+1):=⟨_,rfl⟩;obtain ⟨post,fQ⟩:∃p,p=us.drop (j+(n+1)):=⟨_,rfl⟩;have lp:pre.length=j:=by rw [eR,yI];omega
  have lx:x.length=n+1:=by rw [hx,yI,xP];omega
  have jX:us=pre++x++post:=by
   rw [eR,hx,fQ,<-vT,xq,xO,xO]
  have gx:lo 18446744073709551616 x:=by rw [hx];exact AN (agt gu _) _
  have X4:lo 18446744073709551616 pre:=by rw [eR];exact AN gu _
  have aAa:lo 18446744073709551616 post:=by rw [fQ];exact agt gu _
  have hA:bv 18446744073709551616 (us.drop j)=us.getD j 0+18446744073709551616*bv 18446744073709551616 (us.drop (j+1)):=ME (by omega);have hgj:=gE dU gu j;have ZA:us.drop j=x++post:=by rw [fQ,hx,<-vT,xO]
  have Al:bv 18446744073709551616 (us.drop j)=bv 18446744073709551616 x+18446744073709551616^(n+1)*bv 18446744073709551616 post:=by rw [ZA,rn,lx]
  have KZ:=mw gv;rw [lv] at KZ;have aX:bv 18446744073709551616 (us.drop j)<18446744073709551616*bv 18446744073709551616 vs:=by omega
  have hp0:bv 18446744073709551616 post=0:=by
   rcases xk (bv 18446744073709551616 post) with e | e
   ·exact e
   ·have h1:=yZ (18446744073709551616^(n+1)) e;rw [yh,xd] at h1;rw [xd] at Al;omega
  rw [hp0,xB,y8] at Al;have hl:gN x vs n (vs.getD (n-1) 0) (vs.getD (n-2) 0) (x.getD n 0) (x.getD (n-1) 0) (x.getD (n-2) 0):=
   ⟨dK,by omega,lx,lv,gx,gv,rfl,rfl,rfl,rfl,rfl,eN,by rw [<-Al];exact aX⟩
  have OY:=hl.digit;obtain ⟨x',e1,ZB,PR,K2⟩:=aBu h hw hl (pre:=pre) (post:=post) (qs:=qs);rw [lp,<-jX] at e1;have ZC:bv 18446744073709551616 us=bv 18446744073709551616 pre+18446744073709551616^j*bv 18446744073709551616 x:=by
   have:=HV (b:=18446744073709551616) us j (by omega)
   rw [Al,<-eR] at this;exact this
  have X5:bv 18446744073709551616 (pre++x'++post)=bv 18446744073709551616 pre+18446744073709551616^j*bv 18446744073709551616 x':=by
   rw [xq,rn,rn,hp0,xB,y8,lp]
  have bc:=nQ (b:=18446744073709551616) (l:=qs) (i:=j) (x:=bv 18446744073709551616 x/bv 18446744073709551616 vs) (by omega);rw [hz j (by omega),xB,y8] at bc;have iV:=aca (b:=0) ZC aP;have aR:=fun (hp:Hp) (ct:Nat)=>ku (hp:=hp) (ct:=ct) (id:=1) (v:=bv 18446744073709551616 x/bv 18446744073709551616 vs) (ex:=true) (l:=qs) (o:=j) (by omega)
  have nB:0<bv 18446744073709551616 vs:=by omega
  have r7:=xy (bv 18446744073709551616 x) nB;have lU:∀tm (x y:X),cY tm 0 (some x)=some j->cY tm (la+1) (some y)=some (j+n+1)->eV (H2 qs us) (.sl 1) (.aB 0 0 (la+1)) tm (some x) (some y)=some (.aB 0 j (n+1)):=fun tm x y h1 h2=>by
   rw [auy (cs:=us.map uc) (pu:=true) (ex:=true) rfl h1 h2 (by omega) (by omega),show j+n+1-j=n+1 by omega]
  simp only [go_sem,ya,yh,Iw,H2,show ((j+1:Nat):Int)-1=(j:Int) by omega,show (0:Int)<=(j:Int) by omega,show (j:Int)+(n:Int)=((j+n:Nat):Int) from rfl,wrapN (n:=j+n) (by omega),show ((j+n:Nat):Int)+1=((j+n+1:Nat):Int) from rfl,wrapN (n:=j+n+1) (by omega),lU,dO,aiU,e1,cM 1 0 (show j<m by omega),yf,aR];refine ⟨_,j,rfl,by omega,j,pre++x'++post,qs.set j (bv 18446744073709551616 x/bv 18446744073709551616 vs),?_,rfl,by omega,by rw [oZ,lp,ZB,fQ,xP];omega,by simp [lq],LW.2 ⟨LW.2 ⟨X4,PR⟩,aAa⟩,mr gq OY,fun i hi=>by rw [oY (by omega)];exact hz i (by omega),?_,?_⟩
  ·rw [wrap64 (by omega) (by omega)];simp only [go_sem,ya,yb,ax,au hw.pu,ay _ hw.pu]<;>rfl
  ·rw [X5,K2,bc];exact iV
  ·rw [xq,uD lp,rn,hp0,xB,y8,K2];exact r7
def aAb {l:List Nat} {n:Nat} (h:l.length=n+1):18446744073709551616^n*l.getD n 0<=bv 18446744073709551616 l:=by
 have:=js (b:=18446744073709551616) (l:=l) n
 grind
def n8 {m K:Nat} {l:List Nat} (hn:gm l) (hv:bv 18446744073709551616 l=m) (h:m<18446744073709551616^K):l.length<=K:=apJ (b:=18446744073709551616) (by decide) hn (by rw [hv];exact h)
def ayg (h:Wd P L) {v w:AV} {x:List Nat} {d:Nat} (hv:bU v x) (hw:bU w [d]) (gx:lo 18446744073709551616 x) (lx:x.length<=90000000000) (gA:0<d) (Zz:d<18446744073709551616) (ec:aj P L 158 [v,w] (ab (dR (bv 18446744073709551616 x) d))) (hc:d<=bv 18446744073709551616 x):
  ∃q r,aj P L 137 [v,w] (.ae [q,r])/\WN q (bv 18446744073709551616 x/d)/\WN r (bv 18446744073709551616 x%d):=by
 have ef:¬dR (bv 18446744073709551616 x) d<0:=by unfold dR;rw [yB (by omega)];split<;>decide
 obtain ⟨n,hn⟩:∃n,n=x.length:=⟨_,rfl⟩;have main:∃r l,(∀c:Nat->AV->AV->Option AV,True)/\r<d/\l.length=n/\lo 18446744073709551616 l/\bv 18446744073709551616 x=bv 18446744073709551616 l*d+r/\
   ∃q1 r1,bU q1 (dW l)/\bU r1 (dW [r])/\aj P L 137 [v,w] (.ae [q1,r1]):=by
  unfold aj;rw [aH h.X2]
  simp only [go_sem,ya,Jo,hv.len,hv.ak,hw.len,hw.ak,ec,ef,yz,yO,yf,show ((1:Nat):Int)=(1:Int) from rfl,<-hn,Dd (n:=n) _ (by omega)];generalize hq:D P L (.loop [0,1,6,7,8] Iv) _=q;obtain ⟨ex,s,rfl,tm,r,l,rfl,rfl,t6,t7,lV,bi,hr,aP⟩:=bQ hq (ayd (P:=P) (L:=L) h hv gx (by omega) hw gA Zz hn n) ⟨n,0,[],by
   rw [wrap64 (by omega) (by omega),wD]
   simp only [go_sem,ya,yb,ax,au hv.pu,ay _ hv.pu,au hw.pu,ay _ hw.pu]<;>rfl,rfl,rfl,MT,gA,by rw [xe (by omega)];simp [bv]⟩
  have hf:=mW true l;rw [lV] at hf;obtain ⟨q1,e1,fw⟩:=Bs h.mD hf (by omega);obtain ⟨r1,e2,cW⟩:=Bs h.mD (mW true [r]) (by simp);simp only [yz,yO,yf,List.map_cons,List.map_nil] at e2;refine ⟨r,l,fun _=>trivial,hr,lV,bi,aP,q1,r1,fw,cW,?_⟩
  simp only [go_sem,ya,yb,yD,yp,yh,ax,t6,t7,Br _ (n:=n) (l:=l) lV true,e1,fw.shut,e2,cW.shut];exact Su fw cW _
 obtain ⟨r,l,_,hr,lV,bi,aP,q1,r1,fw,cW,e⟩:=main;have hq:bv 18446744073709551616 l=bv 18446744073709551616 x/d:=by
  rw [aP,xE,tx gA,wS hr,y8]
 have hm:r=bv 18446744073709551616 x%d:=by
  rw [aP,xE,tz,yW hr]
 exact ⟨q1,r1,e,⟨_,fw,AH bi,AG _,by rw [AF,hq]⟩,⟨_,cW,AH (EK.2 (by omega)),AG _,by rw [AF,AU,hm]⟩⟩
def ayh (h:Wd P L) {v w:AV} {x y:List Nat} (hv:bU v x) (hw:bU w y) (gx:lo 18446744073709551616 x) (gy:lo 18446744073709551616 y) (nx:gm x) (ny:gm y) (lx:x.length<=90000000000) (ly:2<=y.length) (ec:aj P L 158 [v,w] (ab (dR (bv 18446744073709551616 x) (bv 18446744073709551616 y)))) (hc:bv 18446744073709551616 y<=bv 18446744073709551616 x):
  ∃q r,aj P L 137 [v,w] (.ae [q,r])/\WN q (bv 18446744073709551616 x/bv 18446744073709551616 y)/\WN r (bv 18446744073709551616 x%bv 18446744073709551616 y):=by
 have dU:(0:Nat)<18446744073709551616:=by decide
 have ef:¬dR (bv 18446744073709551616 x) (bv 18446744073709551616 y)<0:=by unfold dR;rw [yB (by omega)];split<;>decide
 have hyx:y.length<=x.length:=by
  by_cases hh:x.length<y.length
  ·have:=Mz (b:=18446744073709551616) (by decide) gx ny hh;omega
  ·omega
 obtain ⟨n,hn⟩:∃n,n=y.length:=⟨_,rfl⟩;obtain ⟨la,K1⟩:∃la,la=x.length:=⟨_,rfl⟩;have qC:=Me ny (fun e=>by subst e;simp at ly);have DK:=gE dU gy (y.length-1);have ZD:=hw.aQ (i:=y.length-1) (by omega);have jO:=aAb (l:=y) (n:=n-1) (by omega);rw [<-hn] at qC DK ZD;obtain ⟨top,n7⟩:∃top,y.getD (n-1) 0=top:=⟨_,rfl⟩;rw [n7] at qC DK ZD jO;have elz:=ah5 (P:=P) (f:=D P L) h.J5 DK;obtain ⟨z1,z2,z3⟩:=Ry (yay qC) DK;generalize 64-eC 64 top=s at*
 obtain ⟨ov,ev,lov,gov,vov⟩:=akx h.akC hw gy (by omega) z1;obtain ⟨ou,eu,lou,gou,vou⟩:=akx h.akC hv gx (by omega) z1;obtain ⟨v',ZE,eA⟩:=Bs h.mD (mW true ov) (by omega);rw [lov,<-hn] at ZE;rw [<-hn] at ev;rw [<-K1] at eu lou;have gU:=wO s;obtain ⟨vs,z8⟩:∃vs,vs=dW ov:=⟨_,rfl⟩;rw [<-z8] at eA;have DL:lo 18446744073709551616 vs:=by rw [z8];exact AH gov
 have K3:gm vs:=by rw [z8];exact AG _
 have sJ:bv 18446744073709551616 vs=bv 18446744073709551616 y*2^s:=by rw [z8,AF,vov]
 have hyW:bv 18446744073709551616 y*2^s<18446744073709551616^n:=by
  have e:18446744073709551616=2^(64-s)*2^s:=by rw [<-wR,show 64-s+s=64 by omega]
  have e1:=js (b:=18446744073709551616) (l:=y) (n-1);rw [show n-1+1=n by omega,yG (by omega),n7] at e1;have e2:=mw (AN gy (n-1));rw [yI,xn (by omega)] at e2;have e3:top<2^(64-s):=Nat.lt_of_mul_lt_mul_right (a:=2^s) (Nat.lt_of_lt_of_eq z3 e);have e4:=yV (2^s) (show top+1<=2^(64-s) from e3);rw [<-e] at e4;have e5:bv 18446744073709551616 y<18446744073709551616^(n-1)*(top+1):=by rw [xA,yh];omega
  have e6:=wM e5 gU;rw [xj] at e6;have e7:=yZ (18446744073709551616^(n-1)) e4;rw [<-xd,show (n-1).succ=n by omega] at e7;exact yT e6 e7
 have aBv:18446744073709551616^(n-1)*2^s<=bv 18446744073709551616 vs:=by
  rw [sJ];refine yV _ (xi ?_ jO)
  have:=yZ (18446744073709551616^(n-1)) (show 1<=top by omega)
  omega
 have Am:vs.length=n:=by
  have h1:vs.length<=n:=by
   refine n8 K3 sJ ?_;exact hyW
  have h2:¬vs.length<n:=fun hh=>by
   have e1:=mw DL;have e2:18446744073709551616^vs.length<=18446744073709551616^(n-1):=xh dU (by omega);have e3:=yV (2^s) jO;rw [xj,<-sJ] at e3;have e4:=yZ (18446744073709551616^(n-1)) (show 1<=top*2^s by omega);omega
  omega
 have eN:0<vs.getD (n-1) 0:=by
  have:=Me K3 (fun e=>by rw [e] at Am;simp at Am;omega)
  rw [Am] at this;exact yay this
 obtain ⟨m,hm⟩:∃m,m=la-n+1:=⟨_,rfl⟩;have SW:bv 18446744073709551616 (ou.drop m)<bv 18446744073709551616 vs:=by
  have e1:=HV (b:=18446744073709551616) ou m (by omega);have e2:=mw gx;rw [<-K1] at e2;have e3:=wM e2 gU;rw [<-vou] at e3;have e4:18446744073709551616^la=18446744073709551616^m*18446744073709551616^(n-1):=by rw [<-wR];congr 1;omega
  rw [e4,xj] at e3;have e5:18446744073709551616^m*bv 18446744073709551616 (ou.drop m)<18446744073709551616^m*(18446744073709551616^(n-1)*2^s):=by omega
  exact yT (Nat.lt_of_mul_lt_mul_left e5) aBv
 have e1y:(y.length:Int)-1=((n-1:Nat):Int):=by omega
 have aBw:((la:Nat):Int)-(n:Int)=((m-1:Nat):Int):=by omega
 have iY:∃tm us qs rs,(us.length=la+1/\qs.length=m/\lo 18446744073709551616 us/\lo 18446744073709551616 qs/\bv 18446744073709551616 us+bv 18446744073709551616 qs*bv 18446744073709551616 vs=bv 18446744073709551616 x*2^s/\bv 18446744073709551616 us<bv 18446744073709551616 vs/\
   rs.length=n/\lo 18446744073709551616 rs/\bv 18446744073709551616 rs*2^s+us.getD 0 0%2^s=bv 18446744073709551616 (us.take n)+18446744073709551616^n*(us.getD n 0%2^s))/\ai tm 0=v/\
   ∃q1 r1,bU q1 (dW qs)/\bU r1 (dW rs)/\aj P L 137 [v,w] (.ae [q1,r1]):=by
  unfold aj at ec ev eu ZE;unfold aj;rw [aH h.X2];have hfo:=Br (n:=n+1) (l:=ov) (hp:=[]) (by omega) true
  simp only [go_sem,ya,yb,Jo,hv.len,hv.ak,hw.len,hw.ak,ec,ef,show ¬(y.length:Int)=1 by omega,e1y,wrapN (n:=n-1) (by omega),ZD,elz,ev,az9,Br _ (n:=n+1) (l:=ov) (by omega) true,ZE,eA.len,eA.shut,eu,Am,<-K1,aBw,wrapN (n:=m-1) (by omega),show ((m-1:Nat):Int)+1=(m:Int) by omega,wrapN (n:=m) (by omega),Dd (n:=m) _ (by omega)];generalize mR:D P L (.loop [9,10,11,12,13,14] Iw) _=qq;obtain ⟨ex,st,rfl,tm,us,qs,rfl,rfl,t9,t11,t12,t13,PS,PT,Gj,ZF,aP,aX⟩:=bQ mR (ayf (P:=P) (L:=L) h eA DL Am (by omega) (by omega) (by omega) hm eN (s:=s) (U0:=bv 18446744073709551616 x*2^s) m) ⟨m,ou,ym m 0,by
   rw [show ((m-1:Nat):Int)=(m:Int)-1 by omega]
   simp only [go_sem,ya,yb,ax,au eA.pu,ay _ eA.pu]<;>rfl,rfl,yr _,lou,by simp,gou,EL dU m,fun i _=>Cq m i,by rw [EM,tN,y8,vou],SW⟩
  simp only [go_sem,ya,yb,ax,t9,t11,t12,t13];generalize Df:D P L (.loop [9,11,12,13,96,97] Es) _=Zv;obtain ⟨ex,st,rfl,sd,rs,rfl,rfl,t11,t12,t13,ZG,ZH,OZ⟩:=bQ Df (aye (P:=P) (L:=L) (qs:=qs) (m:=m) (la:=la+1) (n:=n) z1 PS Gj (by omega) (by omega) n) ⟨0,[],by simp only [go_sem,ya,yb,ax]<;>rfl,by omega,rfl,MT,by simp [bv]⟩
  have lU:∀(hp:Hp) tm (y:X),aq hp 0=some (.cells true true true 1 ((rs++us.drop n).map uc))->cY tm (la+1) (some y)=some n->eV hp (.sl 1) (.aB 0 0 (la+1)) tm none (some y)=some (.aB 0 0 n):=fun hp tm y h1 h2=>ada h1 h2 (by omega) (by omega)
  have BX:=mW true qs;rw [PT] at BX;obtain ⟨q1,f1,fw⟩:=Bs h.mD BX (by omega);have eF:(rs++us.drop n).take n=rs:=by rw [List.take_append_of_le_length (by omega),yG (by omega)]
  have K4:∃e,∀hp:Hp,iX 0 n (some (true,1,(rs++us.drop n).map uc,hp))=some (.aA e n (rs.map uc),hp):=by
   refine ⟨true&&yR 0 1&&yu n ((rs++us.drop n).map uc).length,fun hp=>?_⟩;simp only [iX,yf,yh,slice,yK,<-tI,eF];rw [yo (by simp;omega)];rfl
  obtain ⟨e,K4⟩:=K4;have jk:=mW e rs;rw [ZG] at jk;obtain ⟨r1,f2,cW⟩:=Bs h.mD jk (by omega);unfold aj at f1 f2;refine ⟨[(0,v)],us,qs,rs,⟨PS,PT,Gj,ZF,aP,aX,ZG,ZH,OZ⟩,rfl,q1,r1,fw,cW,?_⟩
  simp only [go_sem,ya,yb,ax,t11,t12,t13,Br _ (n:=m) (l:=qs) PT true,f1,fw.shut,lU,dO,K4,f2,cW.shut];exact Su fw cW _
 obtain ⟨tm,us,qs,rs,⟨PS,PT,Gj,ZF,aP,aX,ZG,ZH,OZ⟩,_,q1,r1,fw,cW,e⟩:=iY;have iH:0<bv 18446744073709551616 y:=by
  have:=yZ (18446744073709551616^(n-1)) (show 1<=top by omega)
  have:=Nat.pow_pos (n:=n-1) dU
  omega
 rw [sJ] at aP aX;have J6:bv 18446744073709551616 qs=bv 18446744073709551616 x/bv 18446744073709551616 y:=by
  rw [<-uK _ _ gU,<-aP,yaO,xE,tx (Nat.mul_pos iH gU),wS aX,y8]
 have PU:bv 18446744073709551616 us=(bv 18446744073709551616 x%bv 18446744073709551616 y)*2^s:=by
  rw [<-vP,<-aP,yaO,xE (bv _ qs),tz,yW aX]
 have jX:=HV (b:=18446744073709551616) us n (by omega);have gA:bv 18446744073709551616 (us.drop n)=0:=by
  rcases xk (bv 18446744073709551616 (us.drop n)) with h0 | h0
  ·exact h0
  ·have:=yZ (18446744073709551616^n) h0
   omega
 have hun:us.getD n 0=0:=by
  have:=ME (b:=18446744073709551616) (l:=us) (i:=n) (by omega)
  omega
 rw [gA,xB,y8] at jX;have BS:us.getD 0 0%2^s=0:=by
  have e1:=ME (b:=18446744073709551616) (l:=us) (i:=0) (by omega);rw [yK,PU] at e1;have e2:18446744073709551616=2^s*2^(64-s):=by rw [<-wR,show s+(64-s)=64 by omega]
  have e3:(us.getD 0 0+18446744073709551616*bv 18446744073709551616 (us.drop (0+1)))%2^s=us.getD 0 0%2^s:=by
   conv=>lhs;rw [e2,xj]
   exact Nat.add_mul_mod_self_left _ _ _
  rw [<-e3,<-e1,Nat.mul_mod_left]
 rw [hun,BS,Nat.zero_mod,xB,y8,y8,<-jX,PU] at OZ;have aiV:bv 18446744073709551616 rs=bv 18446744073709551616 x%bv 18446744073709551616 y:=Nat.eq_of_mul_eq_mul_right gU OZ;exact ⟨q1,r1,e,⟨_,fw,AH ZF,AG _,by rw [AF,J6]⟩,⟨_,cW,AH ZH,AG _,by rw [AF,aiV]⟩⟩
def akF (h:Wd P L) {v w:AV} {a b K:Nat} (hv:WN v a) (hw:WN w b) (hb:0<b) (ha:a<18446744073709551616^K) (hbK:b<18446744073709551616^K) (hK:K<=90000000000):
  ∃q r,aj P L 137 [v,w] (.ae [q,r])/\WN q (a/b)/\WN r (a%b):=by
 obtain ⟨x,Gk,gx,nx,vx⟩:=hv;obtain ⟨y,PV,gy,ny,vy⟩:=hw;have lx:x.length<=90000000000:=xi (n8 nx vx ha) hK;have ly:y.length<=90000000000:=xi (n8 ny vy hbK) hK;have ec:=aks h.akD Gk PV gx gy nx ny (by omega) (by omega);subst vx;subst vy;by_cases hc:bv 18446744073709551616 x<bv 18446744073709551616 y
 ·have ef:dR (bv 18446744073709551616 x) (bv 18446744073709551616 y)= -1:=by unfold dR;rw [yQ hc]
  rw [ef] at ec;refine ⟨.aa,v,?_,⟨[],sX,MT,rfl,by rw [wS hc];rfl⟩,⟨x,Gk,gx,nx,by rw [yW hc]⟩⟩
  unfold aj;rw [aH h.X2];simp only [go_sem,ya,Jo,Gk.ak,PV.ak,ec,show (-1:Int)<0 by decide];exact Su sX Gk _
 ·rcases (show y.length=0\/y.length=1\/2<=y.length by omega) with h0 | h1 | h2
  ·rw [List.eq_nil_of_length_eq_zero h0] at hb;simp [bv] at hb
  ·obtain ⟨d,rfl⟩:∃d,y=[d]:=by
    cases y with
    | nil=>simp at h1
    | cons d r=>cases r with
     | nil=>exact ⟨d,rfl⟩
     | cons e r=>simp at h1
   exact ayg h Gk PV gx lx hb (EK.1 gy) ec (by omega)
  ·exact ayh h Gk PV gx gy nx ny lx h2 ec (by omega)
end
end
section
open Go (IntKind)
def kz (v:AV) (n:Int):Prop:=∃w l,v= .agg [.bool (decide (n<0)),w]/\bE w l/\dg l/\nz l/\dv l=n.natAbs
def ju {l:List Int} {k:Nat} (hd:dg l) (hn:nz l) (h:dv l<1000000000^k):l.length<=k:=by
 by_cases h0:l=[]
 ·grind
 ·have h1:=Na hn hd h0;have h2:1000000000^(l.length-1)<1000000000^k:=wQ h1 h;have h3:=(Nat.pow_lt_pow_iff_right (show 1<1000000000 by decide)).1 h2;omega
def gH {hp:Hp} {ct id:Nat} {a b x y:AV} (h1:dh a=true) (h2:dh b=true) (p1:a6 a=true) (p2:a6 b=true):
  ji hp ct id 0 2 [a,b] (some (.cells true true true 2 [x,y]))=some (.ae [],bc hp id (.cells true true true 2 [a,b]),ct):=by
 rw [A8 (by rfl) (by simp) (by simp [cy,h1,h2])];simp [aG,p1,p2,over]
section
variable {P:aI} {L:Lib}
def cD (neg:Bool) (m:Nat):Int:=if neg=true then -(m:Int) else m
def zR (h:Has P L 294 Bj) (cS:Has P L 300 lP) (neg:Bool) {v:AV} {l:List Int} (hv:bE v l) (hd:dg l) (hl:l.length<=20000000000):
  ∃r,aj P L 294 [.bool neg,v] r/\kz r (cD neg (dv l)):=by
 obtain ⟨w,e1,hw,jR⟩:=Bq cS hv hl;have p0:=sW l;have BY:=Eg l;have kZ:=AE hd;have hc:(neg&&decide ((0:Int)<((dV l).length:Nat)))=decide (cD neg (dv l)<0):=by
  unfold cD
  cases neg with
  | false=>simp
  | true=>
   simp only [Bool.true_and,xC];by_cases h0:dV l=[]
   ·rw [h0] at p0 ⊢;simp only [dv] at p0;simp [<-p0]
   ·have h1:0<(dV l).length:=List.length_pos_iff.2 h0;have h2:0<dv l:=by
     rw [<-p0];rcases xk (dv (dV l)) with h | h
     ·exact absurd (agr BY kZ h) h0
     ·exact h
    rw [xo (by omega),xo (by omega)]
 refine ⟨.agg [.bool (decide (cD neg (dv l)<0)),w],?_,w,dV l,rfl,hw,kZ,BY,?_⟩
 ·rw [<-hc];unfold aj at e1 ⊢;rw [aH h]
  cases neg with
  | false=>
   simp only [go_sem,ya,yb,yp,Bj,bh,hv.ak,e1,hw.pu,hw.shut,hw.one,hw.cells,gH];rcases hw with ⟨rfl,_⟩ | ⟨e,rfl⟩<;>rfl
  | true=>
   simp only [go_sem,ya,yb,yp,Bj,bh,hv.ak,e1,hw.len,hw.pu,hw.shut,hw.one,hw.cells,gH];rcases hw with ⟨rfl,_⟩ | ⟨e,rfl⟩<;>rfl
 ·rw [p0];unfold cD;split<;>omega
def akG (h:Has P L 298 NX) (jz:Has P L 294 Bj) (cS:Has P L 300 lP) {v:AV} {n:Int} {K:Nat} (hK:K<=20000000000) (hv:kz v n) (hn:n.natAbs<1000000000^K):∃r,aj P L 298 [v] r/\kz r (-n):=by
 obtain ⟨w,l,rfl,hw,hd,hz,p0⟩:=hv;obtain ⟨r,e1,hr⟩:=zR jz cS (!decide (n<0)) hw hd (xi (ju hd hz (by rw [p0];exact hn)) hK)
 have e:cD (!decide (n<0)) (dv l)= -n:=by
  rw [p0];unfold cD;by_cases h0:n<0
  ·simp [h0];omega
  ·simp [h0];omega
 rw [e] at hr;obtain ⟨w2,l2,rfl,gV,fq,jN,zS⟩:=hr;refine ⟨_,?_,w2,l2,rfl,gV,fq,jN,zS⟩;unfold aj at e1 ⊢;rw [aH h];simp only [go_sem,ya,yb,NX,bh,hw.pu,hw.ak,hw.one,gV.pu,gV.one,b8,yf,db,e1,gH,b6];rcases gV with ⟨rfl,_⟩ | ⟨e,rfl⟩<;>rfl
end
end
end VE
